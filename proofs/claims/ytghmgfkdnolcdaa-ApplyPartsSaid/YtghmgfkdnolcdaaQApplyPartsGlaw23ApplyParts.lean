/-
  PRINTED BY PROGRAM: for each function its condition (vc), and that this suffices (ok).
-/
import Derived.Test.YtghmgfkdnolcdaaQApplyPartsGT
namespace Go.Proofs.Ytghmgfkdnolcdaa
open Go.RowKit
set_option linter.unusedVariables false
set_option maxHeartbeats 1000000
set_option maxRecDepth 10000
def law23_ApplyParts.vc (aF : Sl) (m : Sl) (aB : Int) (R : Value → World → Prop) (w : World) : Prop :=
CallK Try.prog 36 #[Sl.v m] w [] (fun v w9 => ∃ (a9 : Bool), v = .bool a9 ∧
((a9 = false) →
CallK Try.prog 37 #[] w9 [] (fun v cb => ∃ (ba : Bool), v = .bool ba ∧
R (.bool ba) cb)) ∧
((a9 = true) →
CallK Try.prog 20 #[Sl.v aF] w9 [] (fun v bb => ∃ (ab : Int) (ad : Str) (af : Str) (ah : Sl) (ai : Sl), v = .agg #[.int .i64 ab, .string (Bs ad), .string (Bs af), Sl.v ah, Sl.v ai] ∧
(I64 ((m.n : Int) + 1)) ∧
∀ (aT : World) (t : Nat), New bb t aT → Chg [] bb aT →
CallK Try.prog 28 #[.int .i64 aB, .int .i64 ((m.n : Int) + 1)] aT [t] (fun v bA => ∃ (b : Int), v = .int .i64 b ∧
∀ (ay : World), Chg [] bA ay →
∃ aU : Sl → World → Prop, (∀ an : Sl, ∀ w' w'' : World, Ext w' w'' → aU an w' → aU an w'') ∧
(∀ w' : World, Ext ay w' → Calls Try.prog 39 #[Sl.v m] w' (Ret fun v w'' => Ext w' w'' ∧ ∃ an : Sl, v = Sl.v an ∧ aU an w'')) ∧
∃ ak : Int, ∃ al : Str, ∃ am : Str, ∃ i : Int, ∃ j : Int, ∃ aG : Sl → Sl → World → Prop, (∀ q : Sl, ∀ r : Sl, ∀ w' w'' : World, Ext w' w'' → aG q r w' → aG q r w'') ∧
(∀ an : Sl, ∀ w' : World, Ext ay w' → aU an w' → Calls Try.prog 38 #[.agg #[.int .i64 ab, .string (Bs ad), .string (Bs af), Sl.v ah, Sl.v ai], Sl.v an] w' (Ret fun v w'' => Ext w' w'' ∧ ∃ q : Sl, ∃ r : Sl, v = .tuple #[.agg #[.int .i64 ak, .string (Bs al), .string (Bs am), Sl.v q, Sl.v r], .int .i64 i, .int .i64 j] ∧ aG q r w'')) ∧
∀ (aH : World) (q : Sl) (r : Sl) (u : Nat), Ext ay aH → aG q r aH → ay.heap.size ≤ u → Box aH u 29 [.int .i64 0, .string (Bs ([] : Str)), .string (Bs ([] : Str)), Sl.v Sl.nil, Sl.v Sl.nil] → 
∀ (aP : World), Chg [u] aH aP →
∀ (aC : World), Chg [] aP aC →
((0 : Int) ≤ b ∧ b ≤ (m.c : Int)) ∧
∃ aV : Sl → World → Prop, (∀ ao : Sl, ∀ w' w'' : World, Ext w' w'' → aV ao w' → aV ao w'') ∧
(∀ w' : World, Ext aC w' → Calls Try.prog 39 #[Sl.v (Sl.cut m 7 0 b.toNat m.c)] w' (Ret fun v w'' => Ext w' w'' ∧ ∃ ao : Sl, v = Sl.v ao ∧ aV ao w'')) ∧
∃ y : Int, ∃ z : Str, ∃ aa : Str, ∃ f : Int, ∃ d : Int, ∃ aI : Sl → Sl → World → Prop, (∀ o : Sl, ∀ p : Sl, ∀ w' w'' : World, Ext w' w'' → aI o p w' → aI o p w'') ∧
(∀ ao : Sl, ∀ w' : World, Ext aC w' → aV ao w' → Calls Try.prog 38 #[.agg #[.int .i64 ab, .string (Bs ad), .string (Bs af), Sl.v ah, Sl.v ai], Sl.v ao] w' (Ret fun v w'' => Ext w' w'' ∧ ∃ o : Sl, ∃ p : Sl, v = .tuple #[.agg #[.int .i64 y, .string (Bs z), .string (Bs aa), Sl.v o, Sl.v p], .int .i64 f, .int .i64 d] ∧ aI o p w'')) ∧
∀ (aJ : World) (o : Sl) (p : Sl) (x : Nat), Ext aC aJ → aI o p aJ → aC.heap.size ≤ x → Box aJ x 29 [.int .i64 0, .string (Bs ([] : Str)), .string (Bs ([] : Str)), Sl.v Sl.nil, Sl.v Sl.nil] → 
∀ (aQ : World), Chg [x] aJ aQ →
∀ (aR : World), Chg [] aQ aR →
∃ aX : Sl → World → Prop, (∀ ap : Sl, ∀ w' w'' : World, Ext w' w'' → aX ap w' → aX ap w'') ∧
(∀ w' : World, Ext aR w' → Calls Try.prog 39 #[Sl.v m] w' (Ret fun v w'' => Ext w' w'' ∧ ∃ ap : Sl, v = Sl.v ap ∧ aX ap w'')) ∧
∃ aS : Sl → World → Prop, (∀ l : Sl, ∀ w' w'' : World, Ext w' w'' → aS l w' → aS l w'') ∧
(∀ ap : Sl, ∀ w' : World, Ext aR w' → aX ap w' → Calls Try.prog 43 #[.agg #[.int .i64 ab, .string (Bs ad), .string (Bs af), Sl.v ah, Sl.v ai], Sl.v ap] w' (Ret fun v w'' => Ext w' w'' ∧ ∃ l : Sl, v = Sl.v l ∧ aS l w'')) ∧
∀ (aK : World) (l : Sl), Ext aR aK → aS l aK → 
((((l.n : Int) ≠ i) ∨ ((m.n : Int) < i)) →
R (.bool false) aK) ∧
(((¬ ((l.n : Int) ≠ i)) ∧ (¬ ((m.n : Int) < i))) →
∀ (az : World), Chg [] aK az →
((((0 < i) ∧ (j = 0))) → I64 (i - 1)) ∧
∃ bd : Addr, ((((0 < i) ∧ (j = 0))) → ((0 : Int) ≤ i - 1 ∧ i - 1 < (l.n : Int)) ∧ l.a = some bd) ∧
∃ (aY : Int) (aZ : Str) (x_343_Text : Str) (a1 : Sl) (a2 : Sl), ((((0 < i) ∧ (j = 0))) → Cells az (bd.add ((i - 1).toNat * 5)) [.int .i64 aY, .string (Bs aZ), .string (Bs x_343_Text), Sl.v a1, Sl.v a2]) ∧
∃ (av : Bool), ((((0 < i) ∧ (j = 0))) → ∀ w' : World, Ext az w' → Calls Try.prog 40 #[.agg #[.int .i64 ak, .string (Bs al), .string (Bs am), Sl.v q, Sl.v r], .agg #[.int .i64 aY, .string (Bs aZ), .string (Bs x_343_Text), Sl.v a1, Sl.v a2]] w' (Ret fun v w'' => Ext w' w'' ∧ v = .bool av)) ∧
((((0 < i) ∧ (j = 0)) ∧ (av = false)) →
∀ (ar : World), Chg [] az ar →
R (.bool false) ar) ∧
((((¬ (0 < i)) ∨ (¬ (j = 0))) ∨ (av = true)) →
(((i < b) ∨ ((l.n : Int) < b)) →
∀ (ar : World), Chg [] az ar →
∃ (bf : Bool), ((((d = j) ∧ (f = i))) → Calls Try.prog 37 #[] ar (Ret fun v w' => Ext ar w' ∧ v = .bool bf)) ∧
(∀ bg : World, Ext ar bg →
R (.bool (((decide (d = j)) && (decide (f = i))) && bf)) bg)) ∧
(((¬ (i < b)) ∧ (¬ ((l.n : Int) < b))) →
∀ (aD : World), Chg [] az aD →
∃ (k : Bool), ((((d = 0) ∧ (f = b)) ∧ (b = 0)) → ∀ w' : World, Ext aD w' → Calls Try.prog 40 #[.agg #[.int .i64 y, .string (Bs z), .string (Bs aa), Sl.v o, Sl.v p], .agg #[.int .i64 ab, .string (Bs ad), .string (Bs af), Sl.v ah, Sl.v ai]] w' (Ret fun v w'' => Ext w' w'' ∧ v = .bool k)) ∧
((((d = 0) ∧ (f = b)) ∧ ((¬ (b = 0)) ∨ (k = false)) ∧ (0 < b)) → I64 (b - 1)) ∧
∃ bh : Addr, ((((d = 0) ∧ (f = b)) ∧ ((¬ (b = 0)) ∨ (k = false)) ∧ (0 < b)) → ((0 : Int) ≤ b - 1 ∧ b - 1 < (l.n : Int)) ∧ l.a = some bh) ∧
∃ (a3 : Int) (a4 : Str) (a5 : Str) (a6 : Sl) (a7 : Sl), ((((d = 0) ∧ (f = b)) ∧ ((¬ (b = 0)) ∨ (k = false)) ∧ (0 < b)) → Cells aD (bh.add ((b - 1).toNat * 5)) [.int .i64 a3, .string (Bs a4), .string (Bs a5), Sl.v a6, Sl.v a7]) ∧
∃ (aj : Bool), ((((d = 0) ∧ (f = b)) ∧ ((¬ (b = 0)) ∨ (k = false)) ∧ (0 < b)) → ∀ w' : World, Ext aD w' → Calls Try.prog 40 #[.agg #[.int .i64 y, .string (Bs z), .string (Bs aa), Sl.v o, Sl.v p], .agg #[.int .i64 a3, .string (Bs a4), .string (Bs a5), Sl.v a6, Sl.v a7]] w' (Ret fun v w'' => Ext w' w'' ∧ v = .bool aj)) ∧
∃ (ax : Bool), (((((d = 0) ∧ (f = b)) ∧ (((b = 0) ∧ (k = true)) ∨ ((0 < b) ∧ (aj = true))))) → ∀ w' : World, Ext aD w' → Calls Try.prog 37 #[] w' (Ret fun v w'' => Ext w' w'' ∧ v = .bool ax)) ∧
∀ (bi : World), Chg [] aD bi →
R (.bool ((((decide (d = 0)) && (decide (f = b))) && (((decide (b = 0)) && k) || ((decide (0 < b)) && aj))) && ax)) bi)))))))
theorem law23_ApplyParts.ok (aF : Sl) (m : Sl) (aB : Int) {R : Value → World → Prop} {w : World} (cc : law23_ApplyParts.vc aF m aB R w) : Calls Try.prog 12 #[Sl.v aF, Sl.v m, .int .i64 aB] w (Ret R) := by
 refine enter [Sl.v aF, Sl.v m, .int .i64 aB] Try.func12 rfl Try.ntmps12 rfl ?_
 intro a0 df
 unfold law23_ApplyParts.vc at cc
 refine wp_seq (wp_region_lit ?_)
 refine sqv df rfl (r_assign rfl) fun _ dg => ?_
 refine sq_end ?_
 have cd := dg.keep [(0, Sl.v aF), (1, Sl.v m), (2, .int .i64 aB)] ⟨rfl, rfl, rfl, trivial⟩
 refine then_normal (wp_seq (wp_seq (wp_region_lit ?_)))
 refine sqv cd rfl (r_move (cd.get rfl)) fun _ cf => ?_
 refine sq (opk_call cf rfl (r_call (args := #[Sl.v m]) Try.func36 (by decide) rfl (map_arr (ml_cons (cf.get rfl) ml_nil)) rfl) cc fun a8 jC w9 cg _ jD jF dh => ?_)
 obtain ⟨a9, rfl, ch⟩ := dh
 refine sqv cg rfl (r_not (cg.get rfl)) fun _ di => ?_
 refine sq_end ?_
 have bm := di.keep [(0, Sl.v aF), (1, Sl.v m), (2, .int .i64 aB), (18, .bool (!a9))] ⟨rfl, rfl, rfl, rfl, trivial⟩
 refine then_normal ?_
 refine wp_cond_split (bm.get rfl) (fun hc => ?_) (fun hc => ?_)
 ·have dj := ch.1 (b_not_t hc)
  clear hc
  refine wp_seq (wp_region_lit ?_)
  refine sq (opk_call bm rfl (r_call (args := #[]) Try.func37 (by decide) rfl (map_arr ml_nil) rfl) dj fun jG jH cb ci _ jI jJ dk => ?_)
  obtain ⟨ba, rfl, dl⟩ := dk
  refine sqv ci rfl (r_assign (ci.get rfl)) fun _ dm => ?_
  refine sq_end ?_
  have cj := dm.keep [(6, .bool ba)] ⟨rfl, trivial⟩
  refine then_normal ?_
  refine wp_ret ?_
  refine then_ret ?_
  exact res_all (vs := [.bool ba]) rfl cj ⟨res_of_tmp cj rfl, trivial⟩ dl
 ·have dn := ch.2 (b_not_f hc)
  clear hc
  refine wp_skip ?_
  refine then_normal (wp_seq (wp_region_lit ?_))
  refine sqv bm rfl (r_move (bm.get rfl)) fun _ ck => ?_
  refine sq (opk_call ck rfl (r_call (args := #[Sl.v aF]) Try.func20 (by decide) rfl (map_arr (ml_cons (ck.get rfl) ml_nil)) rfl) dn fun jK jL bb dp _ jM jN dq => ?_)
  obtain ⟨ab, ad, af, ah, ai, rfl, dr⟩ := dq
  refine sq (opk_new (fun B => .pointer (some ⟨B, 0, none⟩)) dp rfl (r_alloc (cs := [.int .i64 0, .string (Bs ([] : Str)), .string (Bs ([] : Str)), Sl.v Sl.nil, Sl.v Sl.nil]) ti_29 rfl) fun jO cl t ds dt cm bB _ => ?_)
  have cn : New bb t cl := dt
  have du : Chg [] bb cl := ds
  refine sq (opk_store bB cm (r_store (vs := [.int .i64 ab, .string (Bs ad), .string (Bs af), Sl.v ah, Sl.v ai]) (bB.get rfl) (bB.get rfl) rfl ti_29 cm rfl (ones_all [.int .i64 ab, .string (Bs ad), .string (Bs af), Sl.v ah, Sl.v ai] rfl)) fun jP aT co dv dx => ?_)
  have dy : Box aT t 29 [.int .i64 ab, .string (Bs ad), .string (Bs af), Sl.v ah, Sl.v ai] := dv
  have dz := du.storeNew cn co
  have dA := cn.up co.size
  refine sq_end ?_
  have cp := dx.keep [(1, Sl.v m), (2, .int .i64 aB), (7, .pointer (some (⟨t, 0, none⟩ : Addr)))] ⟨rfl, rfl, rfl, trivial⟩
  refine then_normal (wp_seq (wp_region_lit ?_))
  refine sqv cp rfl (r_move (cp.get rfl)) fun _ cq => ?_
  refine sqv cq rfl (r_move (cq.get rfl)) fun _ cr => ?_
  refine sqv cr rfl (r_len (cr.get rfl) Try.underlying46) fun _ ct => ?_
  obtain ⟨dB, dC⟩ := dr
  refine sqv ct rfl (r_addI (ct.get rfl) rfl dB) fun _ bC => ?_
  have dD := dC aT t dA  dz
  refine sq (opk_call bC rfl (r_call (args := #[.int .i64 aB, .int .i64 ((m.n : Int) + 1)]) Try.func28 (by decide) rfl (map_arr (ml_cons (bC.get rfl) (ml_cons (bC.get rfl) ml_nil))) rfl) dD fun jQ jR bA cu _ dF jS dG => ?_)
  obtain ⟨b, rfl, dH⟩ := dG
  have dI := dy.kept dF (.head _)
  refine sqv cu rfl (r_assign (cu.get rfl)) fun _ dJ => ?_
  refine sq_end ?_
  have aA := dJ.keep [(1, Sl.v m), (7, .pointer (some (⟨t, 0, none⟩ : Addr))), (8, .int .i64 b)] ⟨rfl, rfl, rfl, trivial⟩
  refine then_normal (wp_seq ?_)
  refine draw' (by kernel_rfl) fun ay cv => ?_
  have bD := dI.ext cv
  have dK : Chg [] bA ay := cv
  have dL := dH ay    dK
  obtain ⟨aU, dM, dN, dO⟩ := dL
  obtain ⟨ak, al, am, i, j, aG, bF, dP, dQ⟩ := dO
  refine startF (D := [[], [], [1], [0, 1, 2], [0, 1, 2, 3], [0, 1, 2, 3, 4], [0, 1, 2, 3, 4], [0, 1, 2, 3, 4], [], [0, 1, 2, 3, 4, 5, 8], [0, 1, 2, 3, 4, 5, 6, 8, 9], [0, 1, 2, 3, 4, 5, 6, 7, 8, 9, 10]]) (Fs := [6, 7]) (Ef := [(6, fun v _ => v = .int .i64 i), (7, fun v _ => v = .int .i64 j)]) (by kernel_rfl) ?_
  refine parF (D := [[], [], [1], [0, 1, 2], [0, 1, 2, 3], [0, 1, 2, 3, 4], [0, 1, 2, 3, 4], [0, 1, 2, 3, 4], [], [0, 1, 2, 3, 4, 5, 8], [0, 1, 2, 3, 4, 5, 6, 8, 9], [0, 1, 2, 3, 4, 5, 6, 7, 8, 9, 10]]) (S := [0, 1, 2, 3, 4, 5, 8]) (F := []) (KE := [0, 1, 2, 3, 4, 5, 8]) (E := [(0, fun v _ => v = .agg #[.int .i64 ab, .string (Bs ad), .string (Bs af), Sl.v ah, Sl.v ai]), (1, fun v _ => v = Sl.v m), (2, fun v w' => ∃ an : Sl, aU an w' ∧ v = Sl.v an), (3, fun v w' => ∃ q : Sl, ∃ r : Sl, aG q r w' ∧ v = .tuple #[.agg #[.int .i64 ak, .string (Bs al), .string (Bs am), Sl.v q, Sl.v r], .int .i64 i, .int .i64 j]), (4, fun v w' => ∃ q : Sl, ∃ r : Sl, aG q r w' ∧ v = .tuple #[.agg #[.int .i64 ak, .string (Bs al), .string (Bs am), Sl.v q, Sl.v r], .int .i64 i, .int .i64 j]), (5, fun v w' => ∃ q : Sl, ∃ r : Sl, aG q r w' ∧ v = .agg #[.int .i64 ak, .string (Bs al), .string (Bs am), Sl.v q, Sl.v r]), (8, fun v w' => ∃ u : Nat, ay.heap.size ≤ u ∧ Box w' u 29 [.int .i64 0, .string (Bs ([] : Str)), .string (Bs ([] : Str)), Sl.v Sl.nil, Sl.v Sl.nil] ∧ v = .pointer (some (⟨u, 0, none⟩ : Addr)))]) aA rfl (by kernel_rfl) ⟨fun _ _ _ _ h => by first | exact h | (change _ = _ at h; change _ = _; exact h), fun _ _ _ _ h => by first | exact h | (change _ = _ at h; change _ = _; exact h), fun _ _ _ hE ⟨an, h0_, e⟩ => ⟨an, (dM an _ _ hE h0_), e⟩, fun _ _ _ hE ⟨q, r, h0_, e⟩ => ⟨q, r, (bF q r _ _ hE h0_), e⟩, fun _ _ _ hE ⟨q, r, h0_, e⟩ => ⟨q, r, (bF q r _ _ hE h0_), e⟩, fun _ _ _ hE ⟨q, r, h0_, e⟩ => ⟨q, r, (bF q r _ _ hE h0_), e⟩, fun _ _ _ hE ⟨u, h0_, h1_, e⟩ => ⟨u, h0_, (h1_.ext hE), e⟩, fun _ _ _ _ h => by first | exact h | (change _ = _ at h; change _ = _; exact h), fun _ _ _ _ h => by first | exact h | (change _ = _ at h; change _ = _; exact h), trivial⟩ ⟨?_, ?_, ?_, ?_, ?_, ?_, ?_, ?_, ?_, trivial⟩ ?_
  ·intro a w hT
   have hAp := hT.ag aA [(7, .pointer (some (⟨t, 0, none⟩ : Addr)))] ⟨rfl, trivial⟩ (by kernel_rfl)
   exact ovr hAp rfl (r_loadN (cs := [.int .i64 ab, .string (Bs ad), .string (Bs af), Sl.v ah, Sl.v ai]) Try.underlying29 rfl ti_29 (hAp.get rfl) ((bD.ext hT.chg).part 0 _ rfl)) fun _ => Eq.refl _
  ·intro a w hT
   have hAp := hT.ag aA [(1, Sl.v m)] ⟨rfl, trivial⟩ (by kernel_rfl)
   exact ovr hAp rfl (r_move (hAp.get rfl)) fun _ => Eq.refl _
  ·intro a w hT
   have hAp := hT.ag aA [] trivial (by kernel_rfl)
   have dR : a.tmps.getD 29 undef = Sl.v m := hT.vals 1 rfl 29 rfl
   have hAp := hAp.add dR
   exact opk_callX hAp rfl (r_call (args := #[Sl.v m]) Try.func39 (by decide) rfl (map_arr (ml_cons (hAp.get rfl) ml_nil)) rfl) (dN w hT.chg) fun _ _ _ _ e ⟨hE, an, he, hV⟩ => ⟨_, e, hE, fun _ => ⟨an, hV, he⟩⟩
  ·intro a w hT
   have hAp := hT.ag aA [] trivial (by kernel_rfl)
   have dS : a.tmps.getD 28 undef = .agg #[.int .i64 ab, .string (Bs ad), .string (Bs af), Sl.v ah, Sl.v ai] := hT.vals 0 rfl 28 rfl
   have hAp := hAp.add dS
   obtain ⟨an, dT, dU⟩ := hT.vals 2 rfl 30 rfl
   have hAp := hAp.add dU
   exact opk_callX hAp rfl (r_call (args := #[.agg #[.int .i64 ab, .string (Bs ad), .string (Bs af), Sl.v ah, Sl.v ai], Sl.v an]) Try.func38 (by decide) rfl (map_arr (ml_cons (hAp.get rfl) (ml_cons (hAp.get rfl) ml_nil))) rfl) (dP an w hT.chg dT) fun _ _ _ _ e ⟨hE, q, r, he, hV⟩ => ⟨_, e, hE, fun _ => ⟨q, r, hV, he⟩⟩
  ·intro a w hT
   have hAp := hT.ag aA [] trivial (by kernel_rfl)
   obtain ⟨q, r, dV, dX⟩ := hT.vals 3 rfl 31 rfl
   have hAp := hAp.add dX
   exact opk_val hAp rfl (r_move (hAp.get rfl)) fun _ _ e => ⟨_, e, Chg.refl _ _, fun _ => ⟨q, r, dV, rfl⟩⟩
  ·intro a w hT
   have hAp := hT.ag aA [] trivial (by kernel_rfl)
   obtain ⟨q, r, dY, dZ⟩ := hT.vals 4 rfl 27 rfl
   have hAp := hAp.add dZ
   exact opk_val hAp rfl (r_extract (hAp.get rfl) rfl) fun _ _ e => ⟨_, e, Chg.refl _ _, fun _ => ⟨q, r, dY, rfl⟩⟩
  ·intro a w hT
   have hAp := hT.ag aA [] trivial (by kernel_rfl)
   exact opk_new (fun B => .pointer (some ⟨B, 0, none⟩)) hAp rfl (r_alloc (cs := [.int .i64 0, .string (Bs ([] : Str)), .string (Bs ([] : Str)), Sl.v Sl.nil, Sl.v Sl.nil]) ti_29 rfl) fun _ jT u d0 d1 d2 _ e => ⟨_, e, d0, fun _ => ⟨u, Nat.le_trans hT.chg.size d1.ge, d2, rfl⟩⟩
  ·intro a w hT
   have hAp := hT.ag aA [] trivial (by kernel_rfl)
   obtain ⟨q, r, jU, d3⟩ := hT.vals 4 rfl 27 rfl
   have hAp := hAp.add d3
   exact ovr hAp rfl (r_extract (hAp.get rfl) rfl) fun _ => Eq.refl _
  ·intro a w hT
   have hAp := hT.ag aA [] trivial (by kernel_rfl)
   obtain ⟨q, r, jV, d4⟩ := hT.vals 4 rfl 27 rfl
   have hAp := hAp.add d4
   exact ovr hAp rfl (r_extract (hAp.get rfl) rfl) fun _ => Eq.refl _
  ·intro jX aH bG d5 bH
   have d6 := d5 [(1, Sl.v m), (7, .pointer (some (⟨t, 0, none⟩ : Addr))), (8, .int .i64 b)] ⟨rfl, rfl, rfl, trivial⟩ (by kernel_rfl)
   obtain ⟨aL, aM, jY, d7⟩ := bH 4 rfl 27 rfl
   have d8 := d6.add d7
   obtain ⟨q, r, d9, fa⟩ := bH 5 rfl 32 rfl
   have fb := d8.add fa
   obtain ⟨u, cx, bI, fc⟩ := bH 8 rfl 9 rfl
   have bn := fb.add fc
   have fd := bD.ext bG
   have jZ : Chg [] ay aH := bG
   have ff := dQ aH q r u bG d9 cx bI
   have fg : t ≠ u := Nat.ne_of_lt (Nat.lt_of_lt_of_le bD.lt cx)
   refine oneF (c := 9) bn rfl (by kernel_rfl) (constF ⟨fun _ _ _ h => by first | exact h | (change _ = _ at h; change _ = _; exact h), fun _ _ _ h => by first | exact h | (change _ = _ at h; change _ = _; exact h), trivial⟩) ⟨?_, ?_, trivial⟩ ?_
   ·intro a hT
    have hAp := hT.ag bn [(27, .tuple #[.agg #[.int .i64 ak, .string (Bs al), .string (Bs am), Sl.v aL, Sl.v aM], .int .i64 i, .int .i64 j])] ⟨rfl, trivial⟩ (by kernel_rfl)
    exact opk_val hAp rfl (r_extract (hAp.get rfl) rfl) fun _ _ e => ⟨_, e, rfl, fun _ => Eq.refl _⟩
   ·intro a hT
    have hAp := hT.ag bn [(27, .tuple #[.agg #[.int .i64 ak, .string (Bs al), .string (Bs am), Sl.v aL, Sl.v aM], .int .i64 i, .int .i64 j])] ⟨rfl, trivial⟩ (by kernel_rfl)
    exact opk_val hAp rfl (r_extract (hAp.get rfl) rfl) fun _ _ e => ⟨_, e, rfl, fun _ => Eq.refl _⟩
   ·intro j0 hT
    have bJ := hT.ag bn [(1, Sl.v m), (7, .pointer (some (⟨t, 0, none⟩ : Addr))), (8, .int .i64 b), (9, .pointer (some (⟨u, 0, none⟩ : Addr))), (27, .tuple #[.agg #[.int .i64 ak, .string (Bs al), .string (Bs am), Sl.v aL, Sl.v aM], .int .i64 i, .int .i64 j]), (32, .agg #[.int .i64 ak, .string (Bs al), .string (Bs am), Sl.v q, Sl.v r])] ⟨rfl, rfl, rfl, rfl, rfl, rfl, trivial⟩ (by kernel_rfl)
    refine opk_storeF bJ bI (r_store (vs := [.int .i64 ak, .string (Bs al), .string (Bs am), Sl.v q, Sl.v r]) (bJ.get rfl) (bJ.get rfl) rfl ti_29 bI rfl (ones_all [.int .i64 ak, .string (Bs al), .string (Bs am), Sl.v q, Sl.v r] rfl)) fun aP cy fh bj => ⟨undef, Eq.refl _, ?_⟩
    have fi : Box aP u 29 [.int .i64 ak, .string (Bs al), .string (Bs am), Sl.v q, Sl.v r] := fh
    have fj := fd.keep cy (by simpa using fg)
    have fk : Chg [u] aH aP := cy
    have fl := ff aP    fk
    refine parF (D := [[], [], [1], [0, 1, 2], [0, 1, 2, 3], [0, 1, 2, 3, 4], [0, 1, 2, 3, 4], [0, 1, 2, 3, 4], [], [0, 1, 2, 3, 4, 5, 8], [0, 1, 2, 3, 4, 5, 6, 8, 9], [0, 1, 2, 3, 4, 5, 6, 7, 8, 9, 10]]) (S := [10, 11]) (F := []) (KE := [10, 11]) (E := [(10, fun v _ => v = .int .i64 i), (11, fun v _ => v = .int .i64 j)]) bj rfl (by kernel_rfl) ⟨fun _ _ _ _ h => by first | exact h | (change _ = _ at h; change _ = _; exact h), fun _ _ _ _ h => by first | exact h | (change _ = _ at h; change _ = _; exact h), fun _ _ _ _ h => by first | exact h | (change _ = _ at h; change _ = _; exact h), fun _ _ _ _ h => by first | exact h | (change _ = _ at h; change _ = _; exact h), trivial⟩ ⟨?_, ?_, ?_, ?_, trivial⟩ ?_
    ·intro a w hT
     have hAp := hT.ag bj [] trivial (by kernel_rfl)
     have fm : a.tmps.getD 33 undef = .int .i64 i := hT.vals 6 rfl 33 rfl
     have hAp := hAp.add fm
     exact ovr hAp rfl (r_assign (hAp.get rfl)) fun _ => Eq.refl _
    ·intro a w hT
     have hAp := hT.ag bj [] trivial (by kernel_rfl)
     have fn : a.tmps.getD 34 undef = .int .i64 j := hT.vals 7 rfl 34 rfl
     have hAp := hAp.add fn
     exact ovr hAp rfl (r_assign (hAp.get rfl)) fun _ => Eq.refl _
    ·intro a w hT
     have hAp := hT.ag bj [(27, .tuple #[.agg #[.int .i64 ak, .string (Bs al), .string (Bs am), Sl.v aL, Sl.v aM], .int .i64 i, .int .i64 j])] ⟨rfl, trivial⟩ (by kernel_rfl)
     exact ovr hAp rfl (r_extract (hAp.get rfl) rfl) fun _ => Eq.refl _
    ·intro a w hT
     have hAp := hT.ag bj [(27, .tuple #[.agg #[.int .i64 ak, .string (Bs al), .string (Bs am), Sl.v aL, Sl.v aM], .int .i64 i, .int .i64 j])] ⟨rfl, trivial⟩ (by kernel_rfl)
     exact ovr hAp rfl (r_extract (hAp.get rfl) rfl) fun _ => Eq.refl _
    ·intro cz fo bK fp cA
     have fq := fp [(1, Sl.v m), (7, .pointer (some (⟨t, 0, none⟩ : Addr))), (8, .int .i64 b), (9, .pointer (some (⟨u, 0, none⟩ : Addr))), (27, .tuple #[.agg #[.int .i64 ak, .string (Bs al), .string (Bs am), Sl.v aL, Sl.v aM], .int .i64 i, .int .i64 j])] ⟨rfl, rfl, rfl, rfl, rfl, trivial⟩ (by kernel_rfl)
     have fr : cz.tmps.getD 10 undef = .int .i64 i := cA 10 rfl 10 rfl
     have fs := fq.add fr
     have ft : cz.tmps.getD 11 undef = .int .i64 j := cA 11 rfl 11 rfl
     have bL := fs.add ft
     have fu := fj.ext bK
     have fv := fi.ext bK
     have fx : Chg [] aP fo := bK
     refine joinF bL (by kernel_rfl) ⟨fun _ _ _ _ h => by first | exact h | (change _ = _ at h; change _ = _; exact h), fun _ _ _ _ h => by first | exact h | (change _ = _ at h; change _ = _; exact h), trivial⟩ ⟨?_, ?_, trivial⟩ ?_
     ·intro a w hT
      have hAp := hT.ag bL [(27, .tuple #[.agg #[.int .i64 ak, .string (Bs al), .string (Bs am), Sl.v aL, Sl.v aM], .int .i64 i, .int .i64 j])] ⟨rfl, trivial⟩ (by kernel_rfl)
      exact ovr hAp rfl (r_extract (hAp.get rfl) rfl) fun _ => Eq.refl _
     ·intro a w hT
      have hAp := hT.ag bL [(27, .tuple #[.agg #[.int .i64 ak, .string (Bs al), .string (Bs am), Sl.v aL, Sl.v aM], .int .i64 i, .int .i64 j])] ⟨rfl, trivial⟩ (by kernel_rfl)
      exact ovr hAp rfl (r_extract (hAp.get rfl) rfl) fun _ => Eq.refl _
     ·intro j1 j2 bM fy j3
      have fz := fy [(1, Sl.v m), (7, .pointer (some (⟨t, 0, none⟩ : Addr))), (8, .int .i64 b), (9, .pointer (some (⟨u, 0, none⟩ : Addr))), (10, .int .i64 i), (11, .int .i64 j)] ⟨rfl, rfl, rfl, rfl, rfl, rfl, trivial⟩ (by kernel_rfl)
      have fA := fu.ext bM
      have fB := fv.ext bM
      have fC := fx.more bM
      refine PR_end (by kernel_rfl) ?_
      have au := fz.keep [(1, Sl.v m), (7, .pointer (some (⟨t, 0, none⟩ : Addr))), (8, .int .i64 b), (9, .pointer (some (⟨u, 0, none⟩ : Addr))), (10, .int .i64 i), (11, .int .i64 j)] ⟨rfl, rfl, rfl, rfl, rfl, rfl, trivial⟩
      refine then_normal (wp_seq ?_)
      refine draw' (by kernel_rfl) fun aC bN => ?_
      have bO := fA.ext bN
      have cB := fB.ext bN
      have fD := fC.more bN
      have fF := fl aC    fD
      obtain ⟨fG, fH⟩ := fF
      obtain ⟨aV, fI, fJ, fK⟩ := fH
      obtain ⟨y, z, aa, f, d, aI, bP, fL, fM⟩ := fK
      refine startF (D := [[], [], [], [1, 2], [1, 2, 3], [0, 1, 2, 3, 4], [0, 1, 2, 3, 4, 5], [0, 1, 2, 3, 4, 5, 6], [0, 1, 2, 3, 4, 5, 6], [0, 1, 2, 3, 4, 5, 6], [], [0, 1, 2, 3, 4, 5, 6, 7, 10], [0, 1, 2, 3, 4, 5, 6, 7, 8, 10, 11], [0, 1, 2, 3, 4, 5, 6, 7, 8, 9, 10, 11, 12]]) (Fs := [8, 9]) (Ef := [(8, fun v _ => v = .int .i64 f), (9, fun v _ => v = .int .i64 d)]) (by kernel_rfl) ?_
      refine parF (D := [[], [], [], [1, 2], [1, 2, 3], [0, 1, 2, 3, 4], [0, 1, 2, 3, 4, 5], [0, 1, 2, 3, 4, 5, 6], [0, 1, 2, 3, 4, 5, 6], [0, 1, 2, 3, 4, 5, 6], [], [0, 1, 2, 3, 4, 5, 6, 7, 10], [0, 1, 2, 3, 4, 5, 6, 7, 8, 10, 11], [0, 1, 2, 3, 4, 5, 6, 7, 8, 9, 10, 11, 12]]) (S := [0, 1, 2, 3, 4, 5, 6, 7, 10]) (F := []) (KE := [0, 1, 2, 3, 4, 5, 6, 7, 10]) (E := [(0, fun v _ => v = .agg #[.int .i64 ab, .string (Bs ad), .string (Bs af), Sl.v ah, Sl.v ai]), (1, fun v _ => v = Sl.v m), (2, fun v _ => v = .int .i64 b), (3, fun v _ => v = Sl.v (Sl.cut m 7 0 b.toNat m.c)), (4, fun v w' => ∃ ao : Sl, aV ao w' ∧ v = Sl.v ao), (5, fun v w' => ∃ o : Sl, ∃ p : Sl, aI o p w' ∧ v = .tuple #[.agg #[.int .i64 y, .string (Bs z), .string (Bs aa), Sl.v o, Sl.v p], .int .i64 f, .int .i64 d]), (6, fun v w' => ∃ o : Sl, ∃ p : Sl, aI o p w' ∧ v = .tuple #[.agg #[.int .i64 y, .string (Bs z), .string (Bs aa), Sl.v o, Sl.v p], .int .i64 f, .int .i64 d]), (7, fun v w' => ∃ o : Sl, ∃ p : Sl, aI o p w' ∧ v = .agg #[.int .i64 y, .string (Bs z), .string (Bs aa), Sl.v o, Sl.v p]), (10, fun v w' => ∃ x : Nat, aC.heap.size ≤ x ∧ Box w' x 29 [.int .i64 0, .string (Bs ([] : Str)), .string (Bs ([] : Str)), Sl.v Sl.nil, Sl.v Sl.nil] ∧ v = .pointer (some (⟨x, 0, none⟩ : Addr)))]) au rfl (by kernel_rfl) ⟨fun _ _ _ _ h => by first | exact h | (change _ = _ at h; change _ = _; exact h), fun _ _ _ _ h => by first | exact h | (change _ = _ at h; change _ = _; exact h), fun _ _ _ _ h => by first | exact h | (change _ = _ at h; change _ = _; exact h), fun _ _ _ _ h => by first | exact h | (change _ = _ at h; change _ = _; exact h), fun _ _ _ hE ⟨ao, h0_, e⟩ => ⟨ao, (fI ao _ _ hE h0_), e⟩, fun _ _ _ hE ⟨o, p, h0_, e⟩ => ⟨o, p, (bP o p _ _ hE h0_), e⟩, fun _ _ _ hE ⟨o, p, h0_, e⟩ => ⟨o, p, (bP o p _ _ hE h0_), e⟩, fun _ _ _ hE ⟨o, p, h0_, e⟩ => ⟨o, p, (bP o p _ _ hE h0_), e⟩, fun _ _ _ hE ⟨x, h0_, h1_, e⟩ => ⟨x, h0_, (h1_.ext hE), e⟩, fun _ _ _ _ h => by first | exact h | (change _ = _ at h; change _ = _; exact h), fun _ _ _ _ h => by first | exact h | (change _ = _ at h; change _ = _; exact h), trivial⟩ ⟨?_, ?_, ?_, ?_, ?_, ?_, ?_, ?_, ?_, ?_, ?_, trivial⟩ ?_
      ·intro a w hT
       have hAp := hT.ag au [(7, .pointer (some (⟨t, 0, none⟩ : Addr)))] ⟨rfl, trivial⟩ (by kernel_rfl)
       exact ovr hAp rfl (r_loadN (cs := [.int .i64 ab, .string (Bs ad), .string (Bs af), Sl.v ah, Sl.v ai]) Try.underlying29 rfl ti_29 (hAp.get rfl) ((bO.ext hT.chg).part 0 _ rfl)) fun _ => Eq.refl _
      ·intro a w hT
       have hAp := hT.ag au [(1, Sl.v m)] ⟨rfl, trivial⟩ (by kernel_rfl)
       exact ovr hAp rfl (r_move (hAp.get rfl)) fun _ => Eq.refl _
      ·intro a w hT
       have hAp := hT.ag au [(8, .int .i64 b)] ⟨rfl, trivial⟩ (by kernel_rfl)
       exact ovr hAp rfl (r_move (hAp.get rfl)) fun _ => Eq.refl _
      ·intro a w hT
       have hAp := hT.ag au [] trivial (by kernel_rfl)
       have fN : a.tmps.getD 37 undef = Sl.v m := hT.vals 1 rfl 37 rfl
       have hAp := hAp.add fN
       have fO : a.tmps.getD 38 undef = .int .i64 b := hT.vals 2 rfl 38 rfl
       have hAp := hAp.add fO
       exact ovr hAp rfl (r_sliceH (hAp.get rfl) (hAp.get rfl) Try.underlying46 ti_48 fG) fun _ => Eq.refl _
      ·intro a w hT
       have hAp := hT.ag au [] trivial (by kernel_rfl)
       have fP : a.tmps.getD 39 undef = Sl.v (Sl.cut m 7 0 b.toNat m.c) := hT.vals 3 rfl 39 rfl
       have hAp := hAp.add fP
       exact opk_callX hAp rfl (r_call (args := #[Sl.v (Sl.cut m 7 0 b.toNat m.c)]) Try.func39 (by decide) rfl (map_arr (ml_cons (hAp.get rfl) ml_nil)) rfl) (fJ w hT.chg) fun _ _ _ _ e ⟨hE, ao, he, hV⟩ => ⟨_, e, hE, fun _ => ⟨ao, hV, he⟩⟩
      ·intro a w hT
       have hAp := hT.ag au [] trivial (by kernel_rfl)
       have fQ : a.tmps.getD 36 undef = .agg #[.int .i64 ab, .string (Bs ad), .string (Bs af), Sl.v ah, Sl.v ai] := hT.vals 0 rfl 36 rfl
       have hAp := hAp.add fQ
       obtain ⟨ao, fR, fS⟩ := hT.vals 4 rfl 40 rfl
       have hAp := hAp.add fS
       exact opk_callX hAp rfl (r_call (args := #[.agg #[.int .i64 ab, .string (Bs ad), .string (Bs af), Sl.v ah, Sl.v ai], Sl.v ao]) Try.func38 (by decide) rfl (map_arr (ml_cons (hAp.get rfl) (ml_cons (hAp.get rfl) ml_nil))) rfl) (fL ao w hT.chg fR) fun _ _ _ _ e ⟨hE, o, p, he, hV⟩ => ⟨_, e, hE, fun _ => ⟨o, p, hV, he⟩⟩
      ·intro a w hT
       have hAp := hT.ag au [] trivial (by kernel_rfl)
       obtain ⟨o, p, fT, fU⟩ := hT.vals 5 rfl 41 rfl
       have hAp := hAp.add fU
       exact opk_val hAp rfl (r_move (hAp.get rfl)) fun _ _ e => ⟨_, e, Chg.refl _ _, fun _ => ⟨o, p, fT, rfl⟩⟩
      ·intro a w hT
       have hAp := hT.ag au [] trivial (by kernel_rfl)
       obtain ⟨o, p, fV, fX⟩ := hT.vals 6 rfl 35 rfl
       have hAp := hAp.add fX
       exact opk_val hAp rfl (r_extract (hAp.get rfl) rfl) fun _ _ e => ⟨_, e, Chg.refl _ _, fun _ => ⟨o, p, fV, rfl⟩⟩
      ·intro a w hT
       have hAp := hT.ag au [] trivial (by kernel_rfl)
       exact opk_new (fun B => .pointer (some ⟨B, 0, none⟩)) hAp rfl (r_alloc (cs := [.int .i64 0, .string (Bs ([] : Str)), .string (Bs ([] : Str)), Sl.v Sl.nil, Sl.v Sl.nil]) ti_29 rfl) fun _ j4 x fY fZ f0 _ e => ⟨_, e, fY, fun _ => ⟨x, Nat.le_trans hT.chg.size fZ.ge, f0, rfl⟩⟩
      ·intro a w hT
       have hAp := hT.ag au [] trivial (by kernel_rfl)
       obtain ⟨o, p, j5, f1⟩ := hT.vals 6 rfl 35 rfl
       have hAp := hAp.add f1
       exact ovr hAp rfl (r_extract (hAp.get rfl) rfl) fun _ => Eq.refl _
      ·intro a w hT
       have hAp := hT.ag au [] trivial (by kernel_rfl)
       obtain ⟨o, p, j6, f2⟩ := hT.vals 6 rfl 35 rfl
       have hAp := hAp.add f2
       exact ovr hAp rfl (r_extract (hAp.get rfl) rfl) fun _ => Eq.refl _
      ·intro j7 aJ bo f3 bQ
       have f4 := f3 [(1, Sl.v m), (7, .pointer (some (⟨t, 0, none⟩ : Addr))), (8, .int .i64 b), (9, .pointer (some (⟨u, 0, none⟩ : Addr))), (10, .int .i64 i), (11, .int .i64 j)] ⟨rfl, rfl, rfl, rfl, rfl, rfl, trivial⟩ (by kernel_rfl)
       obtain ⟨aN, aO, j8, f5⟩ := bQ 6 rfl 35 rfl
       have f6 := f4.add f5
       obtain ⟨o, p, f7, f8⟩ := bQ 7 rfl 42 rfl
       have f9 := f6.add f8
       obtain ⟨x, bR, bS, ga⟩ := bQ 10 rfl 12 rfl
       have bp := f9.add ga
       have gb := bO.ext bo
       have gc := cB.ext bo
       have j9 : Chg [] aC aJ := bo
       have gd := fM aJ o p x bo f7 bR bS
       have gf : t ≠ x := Nat.ne_of_lt (Nat.lt_of_lt_of_le bO.lt bR)
       have gg : u ≠ x := Nat.ne_of_lt (Nat.lt_of_lt_of_le cB.lt bR)
       refine oneF (c := 11) bp rfl (by kernel_rfl) (constF ⟨fun _ _ _ h => by first | exact h | (change _ = _ at h; change _ = _; exact h), fun _ _ _ h => by first | exact h | (change _ = _ at h; change _ = _; exact h), trivial⟩) ⟨?_, ?_, trivial⟩ ?_
       ·intro a hT
        have hAp := hT.ag bp [(35, .tuple #[.agg #[.int .i64 y, .string (Bs z), .string (Bs aa), Sl.v aN, Sl.v aO], .int .i64 f, .int .i64 d])] ⟨rfl, trivial⟩ (by kernel_rfl)
        exact opk_val hAp rfl (r_extract (hAp.get rfl) rfl) fun _ _ e => ⟨_, e, rfl, fun _ => Eq.refl _⟩
       ·intro a hT
        have hAp := hT.ag bp [(35, .tuple #[.agg #[.int .i64 y, .string (Bs z), .string (Bs aa), Sl.v aN, Sl.v aO], .int .i64 f, .int .i64 d])] ⟨rfl, trivial⟩ (by kernel_rfl)
        exact opk_val hAp rfl (r_extract (hAp.get rfl) rfl) fun _ _ e => ⟨_, e, rfl, fun _ => Eq.refl _⟩
       ·intro ka hT
        have bT := hT.ag bp [(1, Sl.v m), (7, .pointer (some (⟨t, 0, none⟩ : Addr))), (8, .int .i64 b), (9, .pointer (some (⟨u, 0, none⟩ : Addr))), (10, .int .i64 i), (11, .int .i64 j), (12, .pointer (some (⟨x, 0, none⟩ : Addr))), (35, .tuple #[.agg #[.int .i64 y, .string (Bs z), .string (Bs aa), Sl.v aN, Sl.v aO], .int .i64 f, .int .i64 d]), (42, .agg #[.int .i64 y, .string (Bs z), .string (Bs aa), Sl.v o, Sl.v p])] ⟨rfl, rfl, rfl, rfl, rfl, rfl, rfl, rfl, rfl, trivial⟩ (by kernel_rfl)
        refine opk_storeF bT bS (r_store (vs := [.int .i64 y, .string (Bs z), .string (Bs aa), Sl.v o, Sl.v p]) (bT.get rfl) (bT.get rfl) rfl ti_29 bS rfl (ones_all [.int .i64 y, .string (Bs z), .string (Bs aa), Sl.v o, Sl.v p] rfl)) fun aQ bU gh bk => ⟨undef, Eq.refl _, ?_⟩
        have gi : Box aQ x 29 [.int .i64 y, .string (Bs z), .string (Bs aa), Sl.v o, Sl.v p] := gh
        have gj := gb.keep bU (by simpa using gf)
        have gk := gc.keep bU (by simpa using gg)
        have gl : Chg [x] aJ aQ := bU
        have gm := gd aQ    gl
        refine parF (D := [[], [], [], [1, 2], [1, 2, 3], [0, 1, 2, 3, 4], [0, 1, 2, 3, 4, 5], [0, 1, 2, 3, 4, 5, 6], [0, 1, 2, 3, 4, 5, 6], [0, 1, 2, 3, 4, 5, 6], [], [0, 1, 2, 3, 4, 5, 6, 7, 10], [0, 1, 2, 3, 4, 5, 6, 7, 8, 10, 11], [0, 1, 2, 3, 4, 5, 6, 7, 8, 9, 10, 11, 12]]) (S := [12, 13]) (F := []) (KE := [12, 13]) (E := [(12, fun v _ => v = .int .i64 f), (13, fun v _ => v = .int .i64 d)]) bk rfl (by kernel_rfl) ⟨fun _ _ _ _ h => by first | exact h | (change _ = _ at h; change _ = _; exact h), fun _ _ _ _ h => by first | exact h | (change _ = _ at h; change _ = _; exact h), fun _ _ _ _ h => by first | exact h | (change _ = _ at h; change _ = _; exact h), fun _ _ _ _ h => by first | exact h | (change _ = _ at h; change _ = _; exact h), trivial⟩ ⟨?_, ?_, ?_, ?_, trivial⟩ ?_
        ·intro a w hT
         have hAp := hT.ag bk [] trivial (by kernel_rfl)
         have gn : a.tmps.getD 43 undef = .int .i64 f := hT.vals 8 rfl 43 rfl
         have hAp := hAp.add gn
         exact ovr hAp rfl (r_assign (hAp.get rfl)) fun _ => Eq.refl _
        ·intro a w hT
         have hAp := hT.ag bk [] trivial (by kernel_rfl)
         have go : a.tmps.getD 44 undef = .int .i64 d := hT.vals 9 rfl 44 rfl
         have hAp := hAp.add go
         exact ovr hAp rfl (r_assign (hAp.get rfl)) fun _ => Eq.refl _
        ·intro a w hT
         have hAp := hT.ag bk [(35, .tuple #[.agg #[.int .i64 y, .string (Bs z), .string (Bs aa), Sl.v aN, Sl.v aO], .int .i64 f, .int .i64 d])] ⟨rfl, trivial⟩ (by kernel_rfl)
         exact ovr hAp rfl (r_extract (hAp.get rfl) rfl) fun _ => Eq.refl _
        ·intro a w hT
         have hAp := hT.ag bk [(35, .tuple #[.agg #[.int .i64 y, .string (Bs z), .string (Bs aa), Sl.v aN, Sl.v aO], .int .i64 f, .int .i64 d])] ⟨rfl, trivial⟩ (by kernel_rfl)
         exact ovr hAp rfl (r_extract (hAp.get rfl) rfl) fun _ => Eq.refl _
        ·intro cC gp bq gq cD
         have gr := gq [(1, Sl.v m), (7, .pointer (some (⟨t, 0, none⟩ : Addr))), (8, .int .i64 b), (9, .pointer (some (⟨u, 0, none⟩ : Addr))), (10, .int .i64 i), (11, .int .i64 j), (12, .pointer (some (⟨x, 0, none⟩ : Addr))), (35, .tuple #[.agg #[.int .i64 y, .string (Bs z), .string (Bs aa), Sl.v aN, Sl.v aO], .int .i64 f, .int .i64 d])] ⟨rfl, rfl, rfl, rfl, rfl, rfl, rfl, rfl, trivial⟩ (by kernel_rfl)
         have gs : cC.tmps.getD 13 undef = .int .i64 f := cD 12 rfl 13 rfl
         have gu := gr.add gs
         have gv : cC.tmps.getD 14 undef = .int .i64 d := cD 13 rfl 14 rfl
         have bV := gu.add gv
         have gx := gj.ext bq
         have gy := gk.ext bq
         have gz := gi.ext bq
         have gA : Chg [] aQ gp := bq
         refine joinF bV (by kernel_rfl) ⟨fun _ _ _ _ h => by first | exact h | (change _ = _ at h; change _ = _; exact h), fun _ _ _ _ h => by first | exact h | (change _ = _ at h; change _ = _; exact h), trivial⟩ ⟨?_, ?_, trivial⟩ ?_
         ·intro a w hT
          have hAp := hT.ag bV [(35, .tuple #[.agg #[.int .i64 y, .string (Bs z), .string (Bs aa), Sl.v aN, Sl.v aO], .int .i64 f, .int .i64 d])] ⟨rfl, trivial⟩ (by kernel_rfl)
          exact ovr hAp rfl (r_extract (hAp.get rfl) rfl) fun _ => Eq.refl _
         ·intro a w hT
          have hAp := hT.ag bV [(35, .tuple #[.agg #[.int .i64 y, .string (Bs z), .string (Bs aa), Sl.v aN, Sl.v aO], .int .i64 f, .int .i64 d])] ⟨rfl, trivial⟩ (by kernel_rfl)
          exact ovr hAp rfl (r_extract (hAp.get rfl) rfl) fun _ => Eq.refl _
         ·intro kb kc br gB kd
          have gC := gB [(1, Sl.v m), (7, .pointer (some (⟨t, 0, none⟩ : Addr))), (8, .int .i64 b), (9, .pointer (some (⟨u, 0, none⟩ : Addr))), (10, .int .i64 i), (11, .int .i64 j), (12, .pointer (some (⟨x, 0, none⟩ : Addr))), (13, .int .i64 f), (14, .int .i64 d)] ⟨rfl, rfl, rfl, rfl, rfl, rfl, rfl, rfl, rfl, trivial⟩ (by kernel_rfl)
          have gD := gx.ext br
          have gF := gy.ext br
          have gG := gz.ext br
          have gH := gA.more br
          refine PR_end (by kernel_rfl) ?_
          have hA259 := gC.keep [(1, Sl.v m), (7, .pointer (some (⟨t, 0, none⟩ : Addr))), (8, .int .i64 b), (9, .pointer (some (⟨u, 0, none⟩ : Addr))), (10, .int .i64 i), (11, .int .i64 j), (12, .pointer (some (⟨x, 0, none⟩ : Addr))), (13, .int .i64 f), (14, .int .i64 d)] ⟨rfl, rfl, rfl, rfl, rfl, rfl, rfl, rfl, rfl, trivial⟩
          refine then_normal (wp_seq ?_)
          refine draw' (by kernel_rfl) fun aR bs => ?_
          have cF := gD.ext bs
          have gI := gF.ext bs
          have gJ := gG.ext bs
          have gK := gH.more bs
          have gL := gm aR    gK
          obtain ⟨aX, gM, gN, gO⟩ := gL
          obtain ⟨aS, cG, gP, gQ⟩ := gO
          refine par (D := [[], [], [1], [0, 1, 2], [0, 1, 2, 3]]) (S := [0, 1, 2, 3, 4]) (F := []) (V := VL [(0, fun v _ => v = .agg #[.int .i64 ab, .string (Bs ad), .string (Bs af), Sl.v ah, Sl.v ai]), (1, fun v _ => v = Sl.v m), (2, fun v w' => ∃ ap : Sl, aX ap w' ∧ v = Sl.v ap), (3, fun v w' => ∃ l : Sl, aS l w' ∧ v = Sl.v l), (4, fun v w' => ∃ l : Sl, aS l w' ∧ v = Sl.v l)]) hA259 (by kernel_rfl) ⟨fun _ _ _ _ h => by first | exact h | (change _ = _ at h; change _ = _; exact h), fun _ _ _ _ h => by first | exact h | (change _ = _ at h; change _ = _; exact h), fun _ _ _ hE ⟨ap, h0_, e⟩ => ⟨ap, (gM ap _ _ hE h0_), e⟩, fun _ _ _ hE ⟨l, h0_, e⟩ => ⟨l, (cG l _ _ hE h0_), e⟩, fun _ _ _ hE ⟨l, h0_, e⟩ => ⟨l, (cG l _ _ hE h0_), e⟩, trivial⟩ ⟨?_, ?_, ?_, ?_, ?_, trivial⟩ ?_
          ·intro a w hT
           have hAp := hT.ag hA259 [(7, .pointer (some (⟨t, 0, none⟩ : Addr)))] ⟨rfl, trivial⟩ (by kernel_rfl)
           exact ovr hAp rfl (r_loadN (cs := [.int .i64 ab, .string (Bs ad), .string (Bs af), Sl.v ah, Sl.v ai]) Try.underlying29 rfl ti_29 (hAp.get rfl) ((cF.ext hT.chg).part 0 _ rfl)) fun _ => Eq.refl _
          ·intro a w hT
           have hAp := hT.ag hA259 [(1, Sl.v m)] ⟨rfl, trivial⟩ (by kernel_rfl)
           exact ovr hAp rfl (r_move (hAp.get rfl)) fun _ => Eq.refl _
          ·intro a w hT
           have hAp := hT.ag hA259 [] trivial (by kernel_rfl)
           have gR : a.tmps.getD 46 undef = Sl.v m := hT.vals 1 rfl 46 rfl
           have hAp := hAp.add gR
           exact opk_callX hAp rfl (r_call (args := #[Sl.v m]) Try.func39 (by decide) rfl (map_arr (ml_cons (hAp.get rfl) ml_nil)) rfl) (gN w hT.chg) fun _ _ _ _ e ⟨hE, ap, he, hV⟩ => ⟨_, e, hE, fun _ => ⟨ap, hV, he⟩⟩
          ·intro a w hT
           have hAp := hT.ag hA259 [] trivial (by kernel_rfl)
           have gS : a.tmps.getD 45 undef = .agg #[.int .i64 ab, .string (Bs ad), .string (Bs af), Sl.v ah, Sl.v ai] := hT.vals 0 rfl 45 rfl
           have hAp := hAp.add gS
           obtain ⟨ap, gT, gU⟩ := hT.vals 2 rfl 47 rfl
           have hAp := hAp.add gU
           exact opk_callX hAp rfl (r_call (args := #[.agg #[.int .i64 ab, .string (Bs ad), .string (Bs af), Sl.v ah, Sl.v ai], Sl.v ap]) Try.func43 (by decide) rfl (map_arr (ml_cons (hAp.get rfl) (ml_cons (hAp.get rfl) ml_nil))) rfl) (gP ap w hT.chg gT) fun _ _ _ _ e ⟨hE, l, he, hV⟩ => ⟨_, e, hE, fun _ => ⟨l, hV, he⟩⟩
          ·intro a w hT
           have hAp := hT.ag hA259 [] trivial (by kernel_rfl)
           obtain ⟨l, gV, gX⟩ := hT.vals 3 rfl 48 rfl
           have hAp := hAp.add gX
           exact opk_val hAp rfl (r_assign (hAp.get rfl)) fun _ _ e => ⟨_, e, Chg.refl _ _, fun _ => ⟨l, gV, rfl⟩⟩
          ·intro kf aK bl gY gZ
           have g0 := gY [(1, Sl.v m), (7, .pointer (some (⟨t, 0, none⟩ : Addr))), (8, .int .i64 b), (9, .pointer (some (⟨u, 0, none⟩ : Addr))), (10, .int .i64 i), (11, .int .i64 j), (12, .pointer (some (⟨x, 0, none⟩ : Addr))), (13, .int .i64 f), (14, .int .i64 d)] ⟨rfl, rfl, rfl, rfl, rfl, rfl, rfl, rfl, rfl, trivial⟩ (by kernel_rfl)
           obtain ⟨l, g1, g2⟩ := gZ 4 rfl 15 rfl
           have g3 := g0.add g2
           have g4 := cF.ext bl
           have g5 := gI.ext bl
           have g6 := gJ.ext bl
           have kg : Chg [] aR aK := bl
           have cH := gQ aK l bl g1
           refine PR_end (by kernel_rfl) ?_
           have cI := g3.keep [(1, Sl.v m), (7, .pointer (some (⟨t, 0, none⟩ : Addr))), (8, .int .i64 b), (9, .pointer (some (⟨u, 0, none⟩ : Addr))), (10, .int .i64 i), (11, .int .i64 j), (12, .pointer (some (⟨x, 0, none⟩ : Addr))), (13, .int .i64 f), (14, .int .i64 d), (15, Sl.v l)] ⟨rfl, rfl, rfl, rfl, rfl, rfl, rfl, rfl, rfl, rfl, trivial⟩
           refine then_normal (wp_seq (wp_seq (wp_region_lit ?_)))
           refine sqv cI rfl (r_move (cI.get rfl)) fun _ cJ => ?_
           refine sqv cJ rfl (r_len (cJ.get rfl) Try.underlying27) fun _ cK => ?_
           refine sqv cK rfl (r_move (cK.get rfl)) fun _ bX => ?_
           refine sqv bX rfl (r_neq (bX.get rfl) (bX.get rfl)) fun _ cL => ?_
           refine sqv cL rfl (r_move (cL.get rfl)) fun _ cM => ?_
           refine sq (opk_gval cM rfl rfl (g := true) (e := (decide ((l.n : Int) ≠ i))) rfl (fun hg => r_move (cM.get rfl)) fun kh cN _ => ?_)
           refine sq (opk_gval cN rfl rfl (g := true) (e := (decide ((l.n : Int) ≠ i))) rfl (fun hg => r_move (cN.get rfl)) fun ki cO _ => ?_)
           refine sq (opk_gval cO rfl rfl (g := true) (e := (decide ((l.n : Int) ≠ i))) rfl (fun hg => r_len (cv_get (cO.get rfl) hg) Try.underlying46) fun kj bY _ => ?_)
           refine sq (opk_gval bY rfl rfl (g := true) (e := (decide ((l.n : Int) ≠ i))) rfl (fun hg => r_gtr (cv_get (bY.get rfl) hg) (cv_get (bY.get rfl) hg)) fun kk bZ _ => ?_)
           refine sqv bZ rfl (r_pick_or (g := (true && ((decide ((l.n : Int) ≠ i)) == false))) (bZ.get rfl) (bZ.get rfl) (fun he => g_mkf rfl he)) fun _ g7 => ?_
           refine sq_end ?_
           have aq := g7.keep [(7, .pointer (some (⟨t, 0, none⟩ : Addr))), (8, .int .i64 b), (9, .pointer (some (⟨u, 0, none⟩ : Addr))), (10, .int .i64 i), (11, .int .i64 j), (12, .pointer (some (⟨x, 0, none⟩ : Addr))), (13, .int .i64 f), (14, .int .i64 d), (15, Sl.v l), (58, .bool ((decide ((l.n : Int) ≠ i)) || (decide ((m.n : Int) < i))))] ⟨rfl, rfl, rfl, rfl, rfl, rfl, rfl, rfl, rfl, rfl, trivial⟩
           refine then_normal ?_
           refine wp_cond_split (aq.get rfl) (fun hc => ?_) (fun hc => ?_)
           ·have g8 := cH.1 ((b_or_t hc).imp (fun h => (of_decide_eq_true h)) (fun h => (of_decide_eq_true h)))
            clear hc
            refine wp_seq (wp_region_lit ?_)
            refine sqv aq rfl (r_assign rfl) fun _ g9 => ?_
            refine sq_end ?_
            have cP := g9.keep [(6, .bool false)] ⟨rfl, trivial⟩
            refine then_normal ?_
            refine wp_ret ?_
            refine then_ret ?_
            exact res_all (vs := [.bool false]) rfl cP ⟨res_of_tmp cP rfl, trivial⟩ g8
           ·have ha := cH.2 ⟨(of_decide_eq_false (b_or_f hc).1), (of_decide_eq_false (b_or_f hc).2)⟩
            clear hc
            refine wp_skip ?_
            refine then_normal (wp_seq (wp_seq ?_))
            refine draw' (by kernel_rfl) fun az bt => ?_
            have hb := g4.ext bt
            have cQ := g5.ext bt
            have hd := g6.ext bt
            have hf : Chg [] aK az := bt
            have hh := ha az    hf
            obtain ⟨hi, hj⟩ := hh
            obtain ⟨bd, cR, hk⟩ := hj
            obtain ⟨aY, aZ, x_343_Text, a1, a2, hl, hm⟩ := hk
            obtain ⟨av, hn, cS⟩ := hm
            refine par (D := [[], [0], [0, 1], [0, 1, 2], [0, 1, 2, 3], [0, 1, 2, 3, 4], [0, 1, 2, 3, 4, 5], [0, 1, 2, 3, 4, 5, 6], [0, 1, 2, 3, 4, 5, 6], [0, 1, 2, 3, 4, 5, 6], [0, 1, 2, 3, 4, 5, 6, 9], [0, 1, 2, 3, 4, 5, 6, 8, 9, 10], [0, 1, 2, 3, 4, 5, 6, 8, 9, 10, 11], [0, 1, 2, 3, 4, 5, 6, 7, 8, 9, 10, 11, 12], [0, 1, 2, 3, 4, 5, 6, 7, 8, 9, 10, 11, 12, 13], [0, 1, 2, 3, 4, 5, 6, 7, 8, 9, 10, 11, 12, 13, 14]]) (S := [0, 1, 2, 3, 4, 5, 6, 7, 8, 9, 10, 11, 12, 13, 14, 15]) (F := []) (V := VL [(0, fun v _ => v = .int .i64 i), (1, fun v _ => v = .bool (decide (0 < i))), (2, fun v _ => v = .bool (decide (0 < i))), (3, fun v _ => v = cV (true && ((decide (0 < i)) == true)) (.int .i64 j)), (4, fun v _ => v = cV (true && ((decide (0 < i)) == true)) (.bool (decide (j = 0)))), (5, fun v _ => v = .bool ((decide (0 < i)) && (decide (j = 0)))), (6, fun v _ => v = .bool ((decide (0 < i)) && (decide (j = 0)))), (7, fun v _ => v = cV (true && (((decide (0 < i)) && (decide (j = 0))) == true)) (.agg #[.int .i64 ak, .string (Bs al), .string (Bs am), Sl.v q, Sl.v r])), (8, fun v _ => v = cV (true && (((decide (0 < i)) && (decide (j = 0))) == true)) (Sl.v l)), (9, fun v _ => v = cV (true && (((decide (0 < i)) && (decide (j = 0))) == true)) (.int .i64 i)), (10, fun v _ => v = cV (true && (((decide (0 < i)) && (decide (j = 0))) == true)) (.int .i64 (i - 1))), (11, fun v _ => v = cV (true && (((decide (0 < i)) && (decide (j = 0))) == true)) (.pointer (some (bd.add ((i - 1).toNat * 5))))), (12, fun v _ => v = cV (true && (((decide (0 < i)) && (decide (j = 0))) == true)) (.agg #[.int .i64 aY, .string (Bs aZ), .string (Bs x_343_Text), Sl.v a1, Sl.v a2])), (13, fun v _ => v = cV (true && (((decide (0 < i)) && (decide (j = 0))) == true)) (.bool av)), (14, fun v _ => v = cV (true && (((decide (0 < i)) && (decide (j = 0))) == true)) (.bool (!av))), (15, fun v _ => v = .bool (((decide (0 < i)) && (decide (j = 0))) && (!av)))]) aq (by kernel_rfl) ⟨fun _ _ _ _ h => by first | exact h | (change _ = _ at h; change _ = _; exact h), fun _ _ _ _ h => by first | exact h | (change _ = _ at h; change _ = _; exact h), fun _ _ _ _ h => by first | exact h | (change _ = _ at h; change _ = _; exact h), fun _ _ _ _ h => by first | exact h | (change _ = _ at h; change _ = _; exact h), fun _ _ _ _ h => by first | exact h | (change _ = _ at h; change _ = _; exact h), fun _ _ _ _ h => by first | exact h | (change _ = _ at h; change _ = _; exact h), fun _ _ _ _ h => by first | exact h | (change _ = _ at h; change _ = _; exact h), fun _ _ _ _ h => by first | exact h | (change _ = _ at h; change _ = _; exact h), fun _ _ _ _ h => by first | exact h | (change _ = _ at h; change _ = _; exact h), fun _ _ _ _ h => by first | exact h | (change _ = _ at h; change _ = _; exact h), fun _ _ _ _ h => by first | exact h | (change _ = _ at h; change _ = _; exact h), fun _ _ _ _ h => by first | exact h | (change _ = _ at h; change _ = _; exact h), fun _ _ _ _ h => by first | exact h | (change _ = _ at h; change _ = _; exact h), fun _ _ _ _ h => by first | exact h | (change _ = _ at h; change _ = _; exact h), fun _ _ _ _ h => by first | exact h | (change _ = _ at h; change _ = _; exact h), fun _ _ _ _ h => by first | exact h | (change _ = _ at h; change _ = _; exact h), trivial⟩ ⟨?_, ?_, ?_, ?_, ?_, ?_, ?_, ?_, ?_, ?_, ?_, ?_, ?_, ?_, ?_, ?_, trivial⟩ ?_
            ·intro a w hT
             have hAp := hT.ag aq [(10, .int .i64 i)] ⟨rfl, trivial⟩ (by kernel_rfl)
             exact ovr hAp rfl (r_move (hAp.get rfl)) fun _ => Eq.refl _
            ·intro a w hT
             have hAp := hT.ag aq [] trivial (by kernel_rfl)
             have ho : a.tmps.getD 59 undef = .int .i64 i := hT.vals 0 rfl 59 rfl
             have hAp := hAp.add ho
             exact ovr hAp rfl (r_gtr (hAp.get rfl) rfl) fun _ => Eq.refl _
            ·intro a w hT
             have hAp := hT.ag aq [] trivial (by kernel_rfl)
             have hp : a.tmps.getD 60 undef = .bool (decide (0 < i)) := hT.vals 1 rfl 60 rfl
             have hAp := hAp.add hp
             exact ovr hAp rfl (r_move (hAp.get rfl)) fun _ => Eq.refl _
            ·intro a w hT
             have hAp := hT.ag aq [(11, .int .i64 j)] ⟨rfl, trivial⟩ (by kernel_rfl)
             have hq : a.tmps.getD 61 undef = .bool (decide (0 < i)) := hT.vals 2 rfl 61 rfl
             have hAp := hAp.add hq
             exact opk_gval hAp rfl rfl (g := true) (e := (decide (0 < i))) rfl (fun hg => r_move (hAp.get rfl)) fun _ _ e => ⟨_, e, Chg.refl _ _, fun _ => Eq.refl _⟩
            ·intro a w hT
             have hAp := hT.ag aq [] trivial (by kernel_rfl)
             have hr : a.tmps.getD 61 undef = .bool (decide (0 < i)) := hT.vals 2 rfl 61 rfl
             have hAp := hAp.add hr
             have hs : a.tmps.getD 62 undef = cV (true && ((decide (0 < i)) == true)) (.int .i64 j) := hT.vals 3 rfl 62 rfl
             have hAp := hAp.add hs
             exact opk_gval hAp rfl rfl (g := true) (e := (decide (0 < i))) rfl (fun hg => r_eql (cv_get (hAp.get rfl) hg) rfl) fun _ _ e => ⟨_, e, Chg.refl _ _, fun _ => Eq.refl _⟩
            ·intro a w hT
             have hAp := hT.ag aq [] trivial (by kernel_rfl)
             have ht : a.tmps.getD 61 undef = .bool (decide (0 < i)) := hT.vals 2 rfl 61 rfl
             have hAp := hAp.add ht
             have hu : a.tmps.getD 63 undef = cV (true && ((decide (0 < i)) == true)) (.bool (decide (j = 0))) := hT.vals 4 rfl 63 rfl
             have hAp := hAp.add hu
             exact ovr hAp rfl (r_pick_and (g := (true && ((decide (0 < i)) == true))) (hAp.get rfl) (hAp.get rfl) (fun he => g_mkt rfl he)) fun _ => Eq.refl _
            ·intro a w hT
             have hAp := hT.ag aq [] trivial (by kernel_rfl)
             have hv : a.tmps.getD 64 undef = .bool ((decide (0 < i)) && (decide (j = 0))) := hT.vals 5 rfl 64 rfl
             have hAp := hAp.add hv
             exact ovr hAp rfl (r_move (hAp.get rfl)) fun _ => Eq.refl _
            ·intro a w hT
             have hAp := hT.ag aq [(9, .pointer (some (⟨u, 0, none⟩ : Addr)))] ⟨rfl, trivial⟩ (by kernel_rfl)
             have hx : a.tmps.getD 65 undef = .bool ((decide (0 < i)) && (decide (j = 0))) := hT.vals 6 rfl 65 rfl
             have hAp := hAp.add hx
             exact opk_gval hAp rfl rfl (g := true) (e := ((decide (0 < i)) && (decide (j = 0)))) rfl (fun hg => r_loadN (cs := [.int .i64 ak, .string (Bs al), .string (Bs am), Sl.v q, Sl.v r]) Try.underlying29 rfl ti_29 (hAp.get rfl) ((cQ.ext hT.chg).part 0 _ rfl)) fun _ _ e => ⟨_, e, Chg.refl _ _, fun _ => Eq.refl _⟩
            ·intro a w hT
             have hAp := hT.ag aq [(15, Sl.v l)] ⟨rfl, trivial⟩ (by kernel_rfl)
             have hy : a.tmps.getD 65 undef = .bool ((decide (0 < i)) && (decide (j = 0))) := hT.vals 6 rfl 65 rfl
             have hAp := hAp.add hy
             exact opk_gval hAp rfl rfl (g := true) (e := ((decide (0 < i)) && (decide (j = 0)))) rfl (fun hg => r_move (hAp.get rfl)) fun _ _ e => ⟨_, e, Chg.refl _ _, fun _ => Eq.refl _⟩
            ·intro a w hT
             have hAp := hT.ag aq [(10, .int .i64 i)] ⟨rfl, trivial⟩ (by kernel_rfl)
             have hz : a.tmps.getD 65 undef = .bool ((decide (0 < i)) && (decide (j = 0))) := hT.vals 6 rfl 65 rfl
             have hAp := hAp.add hz
             exact opk_gval hAp rfl rfl (g := true) (e := ((decide (0 < i)) && (decide (j = 0)))) rfl (fun hg => r_move (hAp.get rfl)) fun _ _ e => ⟨_, e, Chg.refl _ _, fun _ => Eq.refl _⟩
            ·intro a w hT
             have hAp := hT.ag aq [] trivial (by kernel_rfl)
             have hA : a.tmps.getD 65 undef = .bool ((decide (0 < i)) && (decide (j = 0))) := hT.vals 6 rfl 65 rfl
             have hAp := hAp.add hA
             have hB : a.tmps.getD 68 undef = cV (true && (((decide (0 < i)) && (decide (j = 0))) == true)) (.int .i64 i) := hT.vals 9 rfl 68 rfl
             have hAp := hAp.add hB
             exact opk_gval hAp rfl rfl (g := true) (e := ((decide (0 < i)) && (decide (j = 0)))) rfl (fun hg => r_subI (cv_get (hAp.get rfl) hg) rfl (hi ⟨(of_decide_eq_true (b_and_t (g_t hg)).1), (of_decide_eq_true (b_and_t (g_t hg)).2)⟩)) fun _ _ e => ⟨_, e, Chg.refl _ _, fun _ => Eq.refl _⟩
            ·intro a w hT
             have hAp := hT.ag aq [] trivial (by kernel_rfl)
             have hC : a.tmps.getD 65 undef = .bool ((decide (0 < i)) && (decide (j = 0))) := hT.vals 6 rfl 65 rfl
             have hAp := hAp.add hC
             have hD : a.tmps.getD 67 undef = cV (true && (((decide (0 < i)) && (decide (j = 0))) == true)) (Sl.v l) := hT.vals 8 rfl 67 rfl
             have hAp := hAp.add hD
             have hF : a.tmps.getD 69 undef = cV (true && (((decide (0 < i)) && (decide (j = 0))) == true)) (.int .i64 (i - 1)) := hT.vals 10 rfl 69 rfl
             have hAp := hAp.add hF
             exact opk_gval hAp rfl rfl (g := true) (e := ((decide (0 < i)) && (decide (j = 0)))) rfl (fun hg => r_indexAddr (cv_get (hAp.get rfl) hg) (cv_get (hAp.get rfl) hg) Try.underlying27 ti_29 (cR ⟨(of_decide_eq_true (b_and_t (g_t hg)).1), (of_decide_eq_true (b_and_t (g_t hg)).2)⟩).1 (cR ⟨(of_decide_eq_true (b_and_t (g_t hg)).1), (of_decide_eq_true (b_and_t (g_t hg)).2)⟩).2) fun _ _ e => ⟨_, e, Chg.refl _ _, fun _ => Eq.refl _⟩
            ·intro a w hT
             have hAp := hT.ag aq [] trivial (by kernel_rfl)
             have hG : a.tmps.getD 65 undef = .bool ((decide (0 < i)) && (decide (j = 0))) := hT.vals 6 rfl 65 rfl
             have hAp := hAp.add hG
             have hH : a.tmps.getD 70 undef = cV (true && (((decide (0 < i)) && (decide (j = 0))) == true)) (.pointer (some (bd.add ((i - 1).toNat * 5)))) := hT.vals 11 rfl 70 rfl
             have hAp := hAp.add hH
             exact opk_gval hAp rfl rfl (g := true) (e := ((decide (0 < i)) && (decide (j = 0)))) rfl (fun hg => r_loadN Try.underlying29 rfl ti_29 (cv_get (hAp.get rfl) hg) ((hl ⟨(of_decide_eq_true (b_and_t (g_t hg)).1), (of_decide_eq_true (b_and_t (g_t hg)).2)⟩).ext hT.chg)) fun _ _ e => ⟨_, e, Chg.refl _ _, fun _ => Eq.refl _⟩
            ·intro a w hT
             have hAp := hT.ag aq [] trivial (by kernel_rfl)
             have hI : a.tmps.getD 65 undef = .bool ((decide (0 < i)) && (decide (j = 0))) := hT.vals 6 rfl 65 rfl
             have hAp := hAp.add hI
             have hJ : a.tmps.getD 66 undef = cV (true && (((decide (0 < i)) && (decide (j = 0))) == true)) (.agg #[.int .i64 ak, .string (Bs al), .string (Bs am), Sl.v q, Sl.v r]) := hT.vals 7 rfl 66 rfl
             have hAp := hAp.add hJ
             have hK : a.tmps.getD 71 undef = cV (true && (((decide (0 < i)) && (decide (j = 0))) == true)) (.agg #[.int .i64 aY, .string (Bs aZ), .string (Bs x_343_Text), Sl.v a1, Sl.v a2]) := hT.vals 12 rfl 71 rfl
             have hAp := hAp.add hK
             exact opk_gcall hAp rfl rfl (g := true) (e := ((decide (0 < i)) && (decide (j = 0)))) rfl (fun hg => r_call (args := #[.agg #[.int .i64 ak, .string (Bs al), .string (Bs am), Sl.v q, Sl.v r], .agg #[.int .i64 aY, .string (Bs aZ), .string (Bs x_343_Text), Sl.v a1, Sl.v a2]]) Try.func40 (by decide) rfl (map_arr (ml_cons (cv_get (hAp.get rfl) hg) (ml_cons (cv_get (hAp.get rfl) hg) ml_nil))) rfl) (fun hg => hn ⟨(of_decide_eq_true (b_and_t (g_t hg)).1), (of_decide_eq_true (b_and_t (g_t hg)).2)⟩ w hT.chg) fun _ _ _ e hE => ⟨_, e, hE, fun _ => Eq.refl _⟩
            ·intro a w hT
             have hAp := hT.ag aq [] trivial (by kernel_rfl)
             have hL : a.tmps.getD 65 undef = .bool ((decide (0 < i)) && (decide (j = 0))) := hT.vals 6 rfl 65 rfl
             have hAp := hAp.add hL
             have hM : a.tmps.getD 72 undef = cV (true && (((decide (0 < i)) && (decide (j = 0))) == true)) (.bool av) := hT.vals 13 rfl 72 rfl
             have hAp := hAp.add hM
             exact opk_gval hAp rfl rfl (g := true) (e := ((decide (0 < i)) && (decide (j = 0)))) rfl (fun hg => r_not (cv_get (hAp.get rfl) hg)) fun _ _ e => ⟨_, e, Chg.refl _ _, fun _ => Eq.refl _⟩
            ·intro a w hT
             have hAp := hT.ag aq [] trivial (by kernel_rfl)
             have hN : a.tmps.getD 65 undef = .bool ((decide (0 < i)) && (decide (j = 0))) := hT.vals 6 rfl 65 rfl
             have hAp := hAp.add hN
             have hO : a.tmps.getD 73 undef = cV (true && (((decide (0 < i)) && (decide (j = 0))) == true)) (.bool (!av)) := hT.vals 14 rfl 73 rfl
             have hAp := hAp.add hO
             exact ovr hAp rfl (r_pick_and (g := (true && (((decide (0 < i)) && (decide (j = 0))) == true))) (hAp.get rfl) (hAp.get rfl) (fun he => g_mkt rfl he)) fun _ => Eq.refl _
            ·intro hP ar bu hQ hR
             have hS := hQ [(7, .pointer (some (⟨t, 0, none⟩ : Addr))), (8, .int .i64 b), (10, .int .i64 i), (11, .int .i64 j), (12, .pointer (some (⟨x, 0, none⟩ : Addr))), (13, .int .i64 f), (14, .int .i64 d), (15, Sl.v l)] ⟨rfl, rfl, rfl, rfl, rfl, rfl, rfl, rfl, trivial⟩ (by kernel_rfl)
             have hU : hP.tmps.getD 74 undef = .bool (((decide (0 < i)) && (decide (j = 0))) && (!av)) := hR 15 rfl 74 rfl
             have hX := hS.add hU
             have cT := hb.ext bu
             have kl := cQ.ext bu
             have cU := hd.ext bu
             have b0 : Chg [] az ar := bu
             refine PR_end (by kernel_rfl) ?_
             have bv := hX.keep [(7, .pointer (some (⟨t, 0, none⟩ : Addr))), (8, .int .i64 b), (10, .int .i64 i), (11, .int .i64 j), (12, .pointer (some (⟨x, 0, none⟩ : Addr))), (13, .int .i64 f), (14, .int .i64 d), (15, Sl.v l), (74, .bool (((decide (0 < i)) && (decide (j = 0))) && (!av)))] ⟨rfl, rfl, rfl, rfl, rfl, rfl, rfl, rfl, rfl, trivial⟩
             refine then_normal ?_
             refine wp_cond_split (bv.get rfl) (fun hc => ?_) (fun hc => ?_)
             ·have hY := cS.1 ⟨⟨(of_decide_eq_true (b_and_t (b_and_t hc).1).1), (of_decide_eq_true (b_and_t (b_and_t hc).1).2)⟩, (b_not_t (b_and_t hc).2)⟩
              clear hc
              refine wp_seq (wp_region_lit ?_)
              refine sqv bv rfl (r_assign rfl) fun _ hZ => ?_
              refine sq_end ?_
              have cX := hZ.keep [(6, .bool false)] ⟨rfl, trivial⟩
              refine then_normal ?_
              refine wp_ret ?_
              refine then_ret ?_
              have h0 := hY ar    b0
              exact res_all (vs := [.bool false]) rfl cX ⟨res_of_tmp cX rfl, trivial⟩ h0
             ·have cY := cS.2 ((b_and_f hc).imp (fun h => ((b_and_f h).imp (fun h => (of_decide_eq_false h)) (fun h => (of_decide_eq_false h)))) (fun h => (b_not_f h)))
              clear hc
              refine wp_skip ?_
              refine then_normal (wp_seq (wp_seq (wp_region_lit ?_)))
              refine sqv bv rfl (r_move (bv.get rfl)) fun _ cZ => ?_
              refine sqv cZ rfl (r_move (cZ.get rfl)) fun _ b1 => ?_
              refine sqv b1 rfl (r_lss (b1.get rfl) (b1.get rfl)) fun _ c0 => ?_
              refine sqv c0 rfl (r_move (c0.get rfl)) fun _ c1 => ?_
              refine sq (opk_gval c1 rfl rfl (g := true) (e := (decide (i < b))) rfl (fun hg => r_move (c1.get rfl)) fun km c2 _ => ?_)
              refine sq (opk_gval c2 rfl rfl (g := true) (e := (decide (i < b))) rfl (fun hg => r_len (cv_get (c2.get rfl) hg) Try.underlying27) fun kn c3 _ => ?_)
              refine sq (opk_gval c3 rfl rfl (g := true) (e := (decide (i < b))) rfl (fun hg => r_move (c3.get rfl)) fun ko b2 _ => ?_)
              refine sq (opk_gval b2 rfl rfl (g := true) (e := (decide (i < b))) rfl (fun hg => r_lss (cv_get (b2.get rfl) hg) (cv_get (b2.get rfl) hg)) fun kp b3 _ => ?_)
              refine sqv b3 rfl (r_pick_or (g := (true && ((decide (i < b)) == false))) (b3.get rfl) (b3.get rfl) (fun he => g_mkf rfl he)) fun _ h1 => ?_
              refine sq_end ?_
              have s := h1.keep [(7, .pointer (some (⟨t, 0, none⟩ : Addr))), (8, .int .i64 b), (10, .int .i64 i), (11, .int .i64 j), (12, .pointer (some (⟨x, 0, none⟩ : Addr))), (13, .int .i64 f), (14, .int .i64 d), (15, Sl.v l), (83, .bool ((decide (i < b)) || (decide ((l.n : Int) < b))))] ⟨rfl, rfl, rfl, rfl, rfl, rfl, rfl, rfl, rfl, trivial⟩
              refine then_normal ?_
              refine wp_cond_split (s.get rfl) (fun hc => ?_) (fun hc => ?_)
              ·have h2 := cY.1 ((b_or_t hc).imp (fun h => (of_decide_eq_true h)) (fun h => (of_decide_eq_true h)))
               clear hc
               refine wp_seq (wp_region_lit ?_)
               refine sqv s rfl (r_move (s.get rfl)) fun _ c4 => ?_
               refine sqv c4 rfl (r_move (c4.get rfl)) fun _ b4 => ?_
               refine sqv b4 rfl (r_eql (b4.get rfl) (b4.get rfl)) fun _ c5 => ?_
               refine sqv c5 rfl (r_move (c5.get rfl)) fun _ c6 => ?_
               refine sq (opk_gval c6 rfl rfl (g := true) (e := (decide (d = j))) rfl (fun hg => r_move (c6.get rfl)) fun kq c7 _ => ?_)
               refine sq (opk_gval c7 rfl rfl (g := true) (e := (decide (d = j))) rfl (fun hg => r_move (c7.get rfl)) fun kr b5 _ => ?_)
               refine sq (opk_gval b5 rfl rfl (g := true) (e := (decide (d = j))) rfl (fun hg => r_eql (cv_get (b5.get rfl) hg) (cv_get (b5.get rfl) hg)) fun ks b6 _ => ?_)
               refine sqv b6 rfl (r_pick_and (g := (true && ((decide (d = j)) == true))) (b6.get rfl) (b6.get rfl) (fun he => g_mkt rfl he)) fun _ c8 => ?_
               refine sqv c8 rfl (r_move (c8.get rfl)) fun _ h3 => ?_
               have h4 := h2 ar    b0
               obtain ⟨bf, h5, h6⟩ := h4
               refine sq (opk_gcall h3 rfl rfl (g := true) (e := ((decide (d = j)) && (decide (f = i)))) rfl (fun hg => r_call (args := #[]) Try.func37 (by decide) rfl (map_arr ml_nil) rfl) (fun hg => h5 ⟨(of_decide_eq_true (b_and_t (g_t hg)).1), (of_decide_eq_true (b_and_t (g_t hg)).2)⟩) fun kt bg b7 _ bx => ?_)
               have ku := cT.ext bx
               have kv := cU.ext bx
               have kx : Chg [] ar bg := bx
               have h7 := h6 bg bx
               refine sqv b7 rfl (r_pick_and (g := (true && (((decide (d = j)) && (decide (f = i))) == true))) (b7.get rfl) (b7.get rfl) (fun he => g_mkt rfl he)) fun _ c9 => ?_
               refine sqv c9 rfl (r_assign (c9.get rfl)) fun _ h8 => ?_
               refine sq_end ?_
               have da := h8.keep [(6, .bool (((decide (d = j)) && (decide (f = i))) && bf))] ⟨rfl, trivial⟩
               refine then_normal ?_
               refine wp_ret ?_
               refine then_ret ?_
               exact res_all (vs := [.bool (((decide (d = j)) && (decide (f = i))) && bf)]) rfl da ⟨res_of_tmp da rfl, trivial⟩ h7
              ·have h9 := cY.2 ⟨(of_decide_eq_false (b_or_f hc).1), (of_decide_eq_false (b_or_f hc).2)⟩
               clear hc
               refine wp_skip ?_
               refine then_normal (wp_seq ?_)
               refine draw' (by kernel_rfl) fun aD b8 => ?_
               have db := cT.ext b8
               have b9 := cU.ext b8
               have ia := b0.more b8
               have ib := h9 aD    ia
               obtain ⟨k, ig, ih⟩ := ib
               obtain ⟨ii, ij⟩ := ih
               obtain ⟨bh, dc, ik⟩ := ij
               obtain ⟨a3, a4, a5, a6, a7, il, im⟩ := ik
               obtain ⟨aj, io, ip⟩ := im
               obtain ⟨ax, iq, ir⟩ := ip
               refine par (D := [[], [0], [0, 1], [0, 1, 2], [0, 1, 2], [0, 1, 2, 3, 4], [0, 1, 2, 3, 4, 5], [0, 1, 2, 3, 4, 5, 6], [0, 1, 2, 3, 4, 5, 6, 7], [0, 1, 2, 3, 4, 5, 6, 7, 8], [0, 1, 2, 3, 4, 5, 6, 7, 8, 9], [0, 1, 2, 3, 4, 5, 6, 7, 8, 9, 10], [0, 1, 2, 3, 4, 5, 6, 7, 8, 9, 10], [0, 1, 2, 3, 4, 5, 6, 7, 8, 9, 10, 11, 12], [0, 1, 2, 3, 4, 5, 6, 7, 8, 9, 10, 11, 12, 13], [0, 1, 2, 3, 4, 5, 6, 7, 8, 9, 10, 11, 12, 13, 14], [0, 1, 2, 3, 4, 5, 6, 7, 8, 9, 10, 11, 12, 13, 14, 15], [0, 1, 2, 3, 4, 5, 6, 7, 8, 9, 10, 11, 12, 13, 14, 15, 16], [0, 1, 2, 3, 4, 5, 6, 7, 8, 9, 10, 11, 12, 13, 14, 15, 16, 17], [0, 1, 2, 3, 4, 5, 6, 7, 8, 9, 10, 11, 12, 13, 14, 15, 16, 17, 18], [0, 1, 2, 3, 4, 5, 6, 7, 8, 9, 10, 11, 12, 13, 14, 15, 16, 17, 18], [0, 1, 2, 3, 4, 5, 6, 7, 8, 9, 10, 11, 12, 13, 14, 15, 16, 17, 18], [0, 1, 2, 3, 4, 5, 6, 7, 8, 9, 10, 11, 12, 13, 14, 15, 16, 17, 18, 21], [0, 1, 2, 3, 4, 5, 6, 7, 8, 9, 10, 11, 12, 13, 14, 15, 16, 17, 18, 20, 21, 22], [0, 1, 2, 3, 4, 5, 6, 7, 8, 9, 10, 11, 12, 13, 14, 15, 16, 17, 18, 20, 21, 22, 23], [0, 1, 2, 3, 4, 5, 6, 7, 8, 9, 10, 11, 12, 13, 14, 15, 16, 17, 18, 19, 20, 21, 22, 23, 24], [0, 1, 2, 3, 4, 5, 6, 7, 8, 9, 10, 11, 12, 13, 14, 15, 16, 17, 18, 19, 20, 21, 22, 23, 24, 25], [0, 1, 2, 3, 4, 5, 6, 7, 8, 9, 10, 11, 12, 13, 14, 15, 16, 17, 18, 19, 20, 21, 22, 23, 24, 25, 26], [0, 1, 2, 3, 4, 5, 6, 7, 8, 9, 10, 11, 12, 13, 14, 15, 16, 17, 18, 19, 20, 21, 22, 23, 24, 25, 26, 27], [0, 1, 2, 3, 4, 5, 6, 7, 8, 9, 10, 11, 12, 13, 14, 15, 16, 17, 18, 19, 20, 21, 22, 23, 24, 25, 26, 27, 28], [0, 1, 2, 3, 4, 5, 6, 7, 8, 9, 10, 11, 12, 13, 14, 15, 16, 17, 18, 19, 20, 21, 22, 23, 24, 25, 26, 27, 28, 29], [0, 1, 2, 3, 4, 5, 6, 7, 8, 9, 10, 11, 12, 13, 14, 15, 16, 17, 18, 19, 20, 21, 22, 23, 24, 25, 26, 27, 28, 29, 30], [0, 1, 2, 3, 4, 5, 6, 7, 8, 9, 10, 11, 12, 13, 14, 15, 16, 17, 18, 19, 20, 21, 22, 23, 24, 25, 26, 27, 28, 29, 30, 31]]) (S := [0, 1, 2, 3, 4, 5, 6, 7, 8, 9, 10, 11, 12, 13, 14, 15, 16, 17, 18, 19, 20, 21, 22, 23, 24, 25, 26, 27, 28, 29, 30, 31, 32]) (F := []) (V := VL [(0, fun v _ => v = .int .i64 d), (1, fun v _ => v = .bool (decide (d = 0))), (2, fun v _ => v = .bool (decide (d = 0))), (3, fun v _ => v = cV (true && ((decide (d = 0)) == true)) (.int .i64 f)), (4, fun v _ => v = cV (true && ((decide (d = 0)) == true)) (.int .i64 b)), (5, fun v _ => v = cV (true && ((decide (d = 0)) == true)) (.bool (decide (f = b)))), (6, fun v _ => v = .bool ((decide (d = 0)) && (decide (f = b)))), (7, fun v _ => v = .bool ((decide (d = 0)) && (decide (f = b)))), (8, fun v _ => v = cV (true && (((decide (d = 0)) && (decide (f = b))) == true)) (.int .i64 b)), (9, fun v _ => v = cV (true && (((decide (d = 0)) && (decide (f = b))) == true)) (.bool (decide (b = 0)))), (10, fun v _ => v = cV (true && (((decide (d = 0)) && (decide (f = b))) == true)) (.bool (decide (b = 0)))), (11, fun v _ => v = cV ((true && (((decide (d = 0)) && (decide (f = b))) == true)) && ((decide (b = 0)) == true)) (.agg #[.int .i64 y, .string (Bs z), .string (Bs aa), Sl.v o, Sl.v p])), (12, fun v _ => v = cV ((true && (((decide (d = 0)) && (decide (f = b))) == true)) && ((decide (b = 0)) == true)) (.agg #[.int .i64 ab, .string (Bs ad), .string (Bs af), Sl.v ah, Sl.v ai])), (13, fun v _ => v = cV ((true && (((decide (d = 0)) && (decide (f = b))) == true)) && ((decide (b = 0)) == true)) (.bool k)), (14, fun v _ => v = cV (true && (((decide (d = 0)) && (decide (f = b))) == true)) (.bool ((decide (b = 0)) && k))), (15, fun v _ => v = cV (true && (((decide (d = 0)) && (decide (f = b))) == true)) (.bool ((decide (b = 0)) && k))), (16, fun v _ => v = cV ((true && (((decide (d = 0)) && (decide (f = b))) == true)) && (((decide (b = 0)) && k) == false)) (.int .i64 b)), (17, fun v _ => v = cV ((true && (((decide (d = 0)) && (decide (f = b))) == true)) && (((decide (b = 0)) && k) == false)) (.bool (decide (0 < b)))), (18, fun v _ => v = cV ((true && (((decide (d = 0)) && (decide (f = b))) == true)) && (((decide (b = 0)) && k) == false)) (.bool (decide (0 < b)))), (19, fun v _ => v = cV (((true && (((decide (d = 0)) && (decide (f = b))) == true)) && (((decide (b = 0)) && k) == false)) && ((decide (0 < b)) == true)) (.agg #[.int .i64 y, .string (Bs z), .string (Bs aa), Sl.v o, Sl.v p])), (20, fun v _ => v = cV (((true && (((decide (d = 0)) && (decide (f = b))) == true)) && (((decide (b = 0)) && k) == false)) && ((decide (0 < b)) == true)) (Sl.v l)), (21, fun v _ => v = cV (((true && (((decide (d = 0)) && (decide (f = b))) == true)) && (((decide (b = 0)) && k) == false)) && ((decide (0 < b)) == true)) (.int .i64 b)), (22, fun v _ => v = cV (((true && (((decide (d = 0)) && (decide (f = b))) == true)) && (((decide (b = 0)) && k) == false)) && ((decide (0 < b)) == true)) (.int .i64 (b - 1))), (23, fun v _ => v = cV (((true && (((decide (d = 0)) && (decide (f = b))) == true)) && (((decide (b = 0)) && k) == false)) && ((decide (0 < b)) == true)) (.pointer (some (bh.add ((b - 1).toNat * 5))))), (24, fun v _ => v = cV (((true && (((decide (d = 0)) && (decide (f = b))) == true)) && (((decide (b = 0)) && k) == false)) && ((decide (0 < b)) == true)) (.agg #[.int .i64 a3, .string (Bs a4), .string (Bs a5), Sl.v a6, Sl.v a7])), (25, fun v _ => v = cV (((true && (((decide (d = 0)) && (decide (f = b))) == true)) && (((decide (b = 0)) && k) == false)) && ((decide (0 < b)) == true)) (.bool aj)), (26, fun v _ => v = cV ((true && (((decide (d = 0)) && (decide (f = b))) == true)) && (((decide (b = 0)) && k) == false)) (.bool ((decide (0 < b)) && aj))), (27, fun v _ => v = cV (true && (((decide (d = 0)) && (decide (f = b))) == true)) (.bool (((decide (b = 0)) && k) || ((decide (0 < b)) && aj)))), (28, fun v _ => v = .bool (((decide (d = 0)) && (decide (f = b))) && (((decide (b = 0)) && k) || ((decide (0 < b)) && aj)))), (29, fun v _ => v = .bool (((decide (d = 0)) && (decide (f = b))) && (((decide (b = 0)) && k) || ((decide (0 < b)) && aj)))), (30, fun v _ => v = cV (true && ((((decide (d = 0)) && (decide (f = b))) && (((decide (b = 0)) && k) || ((decide (0 < b)) && aj))) == true)) (.bool ax)), (31, fun v _ => v = .bool ((((decide (d = 0)) && (decide (f = b))) && (((decide (b = 0)) && k) || ((decide (0 < b)) && aj))) && ax)), (32, fun v _ => v = .bool ((((decide (d = 0)) && (decide (f = b))) && (((decide (b = 0)) && k) || ((decide (0 < b)) && aj))) && ax))]) s (by kernel_rfl) ⟨fun _ _ _ _ h => by first | exact h | (change _ = _ at h; change _ = _; exact h), fun _ _ _ _ h => by first | exact h | (change _ = _ at h; change _ = _; exact h), fun _ _ _ _ h => by first | exact h | (change _ = _ at h; change _ = _; exact h), fun _ _ _ _ h => by first | exact h | (change _ = _ at h; change _ = _; exact h), fun _ _ _ _ h => by first | exact h | (change _ = _ at h; change _ = _; exact h), fun _ _ _ _ h => by first | exact h | (change _ = _ at h; change _ = _; exact h), fun _ _ _ _ h => by first | exact h | (change _ = _ at h; change _ = _; exact h), fun _ _ _ _ h => by first | exact h | (change _ = _ at h; change _ = _; exact h), fun _ _ _ _ h => by first | exact h | (change _ = _ at h; change _ = _; exact h), fun _ _ _ _ h => by first | exact h | (change _ = _ at h; change _ = _; exact h), fun _ _ _ _ h => by first | exact h | (change _ = _ at h; change _ = _; exact h), fun _ _ _ _ h => by first | exact h | (change _ = _ at h; change _ = _; exact h), fun _ _ _ _ h => by first | exact h | (change _ = _ at h; change _ = _; exact h), fun _ _ _ _ h => by first | exact h | (change _ = _ at h; change _ = _; exact h), fun _ _ _ _ h => by first | exact h | (change _ = _ at h; change _ = _; exact h), fun _ _ _ _ h => by first | exact h | (change _ = _ at h; change _ = _; exact h), fun _ _ _ _ h => by first | exact h | (change _ = _ at h; change _ = _; exact h), fun _ _ _ _ h => by first | exact h | (change _ = _ at h; change _ = _; exact h), fun _ _ _ _ h => by first | exact h | (change _ = _ at h; change _ = _; exact h), fun _ _ _ _ h => by first | exact h | (change _ = _ at h; change _ = _; exact h), fun _ _ _ _ h => by first | exact h | (change _ = _ at h; change _ = _; exact h), fun _ _ _ _ h => by first | exact h | (change _ = _ at h; change _ = _; exact h), fun _ _ _ _ h => by first | exact h | (change _ = _ at h; change _ = _; exact h), fun _ _ _ _ h => by first | exact h | (change _ = _ at h; change _ = _; exact h), fun _ _ _ _ h => by first | exact h | (change _ = _ at h; change _ = _; exact h), fun _ _ _ _ h => by first | exact h | (change _ = _ at h; change _ = _; exact h), fun _ _ _ _ h => by first | exact h | (change _ = _ at h; change _ = _; exact h), fun _ _ _ _ h => by first | exact h | (change _ = _ at h; change _ = _; exact h), fun _ _ _ _ h => by first | exact h | (change _ = _ at h; change _ = _; exact h), fun _ _ _ _ h => by first | exact h | (change _ = _ at h; change _ = _; exact h), fun _ _ _ _ h => by first | exact h | (change _ = _ at h; change _ = _; exact h), fun _ _ _ _ h => by first | exact h | (change _ = _ at h; change _ = _; exact h), fun _ _ _ _ h => by first | exact h | (change _ = _ at h; change _ = _; exact h), trivial⟩ ⟨?_, ?_, ?_, ?_, ?_, ?_, ?_, ?_, ?_, ?_, ?_, ?_, ?_, ?_, ?_, ?_, ?_, ?_, ?_, ?_, ?_, ?_, ?_, ?_, ?_, ?_, ?_, ?_, ?_, ?_, ?_, ?_, ?_, trivial⟩ ?_
               ·intro a w hT
                have hAp := hT.ag s [(14, .int .i64 d)] ⟨rfl, trivial⟩ (by kernel_rfl)
                exact ovr hAp rfl (r_move (hAp.get rfl)) fun _ => Eq.refl _
               ·intro a w hT
                have hAp := hT.ag s [] trivial (by kernel_rfl)
                have it : a.tmps.getD 95 undef = .int .i64 d := hT.vals 0 rfl 95 rfl
                have hAp := hAp.add it
                exact ovr hAp rfl (r_eql (hAp.get rfl) rfl) fun _ => Eq.refl _
               ·intro a w hT
                have hAp := hT.ag s [] trivial (by kernel_rfl)
                have iu : a.tmps.getD 96 undef = .bool (decide (d = 0)) := hT.vals 1 rfl 96 rfl
                have hAp := hAp.add iu
                exact ovr hAp rfl (r_move (hAp.get rfl)) fun _ => Eq.refl _
               ·intro a w hT
                have hAp := hT.ag s [(13, .int .i64 f)] ⟨rfl, trivial⟩ (by kernel_rfl)
                have iv : a.tmps.getD 97 undef = .bool (decide (d = 0)) := hT.vals 2 rfl 97 rfl
                have hAp := hAp.add iv
                exact opk_gval hAp rfl rfl (g := true) (e := (decide (d = 0))) rfl (fun hg => r_move (hAp.get rfl)) fun _ _ e => ⟨_, e, Chg.refl _ _, fun _ => Eq.refl _⟩
               ·intro a w hT
                have hAp := hT.ag s [(8, .int .i64 b)] ⟨rfl, trivial⟩ (by kernel_rfl)
                have ix : a.tmps.getD 97 undef = .bool (decide (d = 0)) := hT.vals 2 rfl 97 rfl
                have hAp := hAp.add ix
                exact opk_gval hAp rfl rfl (g := true) (e := (decide (d = 0))) rfl (fun hg => r_move (hAp.get rfl)) fun _ _ e => ⟨_, e, Chg.refl _ _, fun _ => Eq.refl _⟩
               ·intro a w hT
                have hAp := hT.ag s [] trivial (by kernel_rfl)
                have iy : a.tmps.getD 97 undef = .bool (decide (d = 0)) := hT.vals 2 rfl 97 rfl
                have hAp := hAp.add iy
                have iz : a.tmps.getD 98 undef = cV (true && ((decide (d = 0)) == true)) (.int .i64 f) := hT.vals 3 rfl 98 rfl
                have hAp := hAp.add iz
                have iA : a.tmps.getD 99 undef = cV (true && ((decide (d = 0)) == true)) (.int .i64 b) := hT.vals 4 rfl 99 rfl
                have hAp := hAp.add iA
                exact opk_gval hAp rfl rfl (g := true) (e := (decide (d = 0))) rfl (fun hg => r_eql (cv_get (hAp.get rfl) hg) (cv_get (hAp.get rfl) hg)) fun _ _ e => ⟨_, e, Chg.refl _ _, fun _ => Eq.refl _⟩
               ·intro a w hT
                have hAp := hT.ag s [] trivial (by kernel_rfl)
                have iB : a.tmps.getD 97 undef = .bool (decide (d = 0)) := hT.vals 2 rfl 97 rfl
                have hAp := hAp.add iB
                have iC : a.tmps.getD 100 undef = cV (true && ((decide (d = 0)) == true)) (.bool (decide (f = b))) := hT.vals 5 rfl 100 rfl
                have hAp := hAp.add iC
                exact ovr hAp rfl (r_pick_and (g := (true && ((decide (d = 0)) == true))) (hAp.get rfl) (hAp.get rfl) (fun he => g_mkt rfl he)) fun _ => Eq.refl _
               ·intro a w hT
                have hAp := hT.ag s [] trivial (by kernel_rfl)
                have iD : a.tmps.getD 101 undef = .bool ((decide (d = 0)) && (decide (f = b))) := hT.vals 6 rfl 101 rfl
                have hAp := hAp.add iD
                exact ovr hAp rfl (r_move (hAp.get rfl)) fun _ => Eq.refl _
               ·intro a w hT
                have hAp := hT.ag s [(8, .int .i64 b)] ⟨rfl, trivial⟩ (by kernel_rfl)
                have iF : a.tmps.getD 102 undef = .bool ((decide (d = 0)) && (decide (f = b))) := hT.vals 7 rfl 102 rfl
                have hAp := hAp.add iF
                exact opk_gval hAp rfl rfl (g := true) (e := ((decide (d = 0)) && (decide (f = b)))) rfl (fun hg => r_move (hAp.get rfl)) fun _ _ e => ⟨_, e, Chg.refl _ _, fun _ => Eq.refl _⟩
               ·intro a w hT
                have hAp := hT.ag s [] trivial (by kernel_rfl)
                have iG : a.tmps.getD 102 undef = .bool ((decide (d = 0)) && (decide (f = b))) := hT.vals 7 rfl 102 rfl
                have hAp := hAp.add iG
                have iH : a.tmps.getD 103 undef = cV (true && (((decide (d = 0)) && (decide (f = b))) == true)) (.int .i64 b) := hT.vals 8 rfl 103 rfl
                have hAp := hAp.add iH
                exact opk_gval hAp rfl rfl (g := true) (e := ((decide (d = 0)) && (decide (f = b)))) rfl (fun hg => r_eql (cv_get (hAp.get rfl) hg) rfl) fun _ _ e => ⟨_, e, Chg.refl _ _, fun _ => Eq.refl _⟩
               ·intro a w hT
                have hAp := hT.ag s [] trivial (by kernel_rfl)
                have iI : a.tmps.getD 102 undef = .bool ((decide (d = 0)) && (decide (f = b))) := hT.vals 7 rfl 102 rfl
                have hAp := hAp.add iI
                have iJ : a.tmps.getD 104 undef = cV (true && (((decide (d = 0)) && (decide (f = b))) == true)) (.bool (decide (b = 0))) := hT.vals 9 rfl 104 rfl
                have hAp := hAp.add iJ
                exact opk_gval hAp rfl rfl (g := true) (e := ((decide (d = 0)) && (decide (f = b)))) rfl (fun hg => r_move (cv_get (hAp.get rfl) hg)) fun _ _ e => ⟨_, e, Chg.refl _ _, fun _ => Eq.refl _⟩
               ·intro a w hT
                have hAp := hT.ag s [(12, .pointer (some (⟨x, 0, none⟩ : Addr)))] ⟨rfl, trivial⟩ (by kernel_rfl)
                have iK : a.tmps.getD 105 undef = cV (true && (((decide (d = 0)) && (decide (f = b))) == true)) (.bool (decide (b = 0))) := hT.vals 10 rfl 105 rfl
                have hAp := hAp.add iK
                exact opk_gval hAp rfl rfl (g := (true && (((decide (d = 0)) && (decide (f = b))) == true))) (e := (decide (b = 0))) rfl (fun hg => r_loadN (cs := [.int .i64 y, .string (Bs z), .string (Bs aa), Sl.v o, Sl.v p]) Try.underlying29 rfl ti_29 (hAp.get rfl) ((b9.ext hT.chg).part 0 _ rfl)) fun _ _ e => ⟨_, e, Chg.refl _ _, fun _ => Eq.refl _⟩
               ·intro a w hT
                have hAp := hT.ag s [(7, .pointer (some (⟨t, 0, none⟩ : Addr)))] ⟨rfl, trivial⟩ (by kernel_rfl)
                have iL : a.tmps.getD 105 undef = cV (true && (((decide (d = 0)) && (decide (f = b))) == true)) (.bool (decide (b = 0))) := hT.vals 10 rfl 105 rfl
                have hAp := hAp.add iL
                exact opk_gval hAp rfl rfl (g := (true && (((decide (d = 0)) && (decide (f = b))) == true))) (e := (decide (b = 0))) rfl (fun hg => r_loadN (cs := [.int .i64 ab, .string (Bs ad), .string (Bs af), Sl.v ah, Sl.v ai]) Try.underlying29 rfl ti_29 (hAp.get rfl) ((db.ext hT.chg).part 0 _ rfl)) fun _ _ e => ⟨_, e, Chg.refl _ _, fun _ => Eq.refl _⟩
               ·intro a w hT
                have hAp := hT.ag s [] trivial (by kernel_rfl)
                have iM : a.tmps.getD 105 undef = cV (true && (((decide (d = 0)) && (decide (f = b))) == true)) (.bool (decide (b = 0))) := hT.vals 10 rfl 105 rfl
                have hAp := hAp.add iM
                have iN : a.tmps.getD 106 undef = cV ((true && (((decide (d = 0)) && (decide (f = b))) == true)) && ((decide (b = 0)) == true)) (.agg #[.int .i64 y, .string (Bs z), .string (Bs aa), Sl.v o, Sl.v p]) := hT.vals 11 rfl 106 rfl
                have hAp := hAp.add iN
                have iO : a.tmps.getD 107 undef = cV ((true && (((decide (d = 0)) && (decide (f = b))) == true)) && ((decide (b = 0)) == true)) (.agg #[.int .i64 ab, .string (Bs ad), .string (Bs af), Sl.v ah, Sl.v ai]) := hT.vals 12 rfl 107 rfl
                have hAp := hAp.add iO
                exact opk_gcall hAp rfl rfl (g := (true && (((decide (d = 0)) && (decide (f = b))) == true))) (e := (decide (b = 0))) rfl (fun hg => r_call (args := #[.agg #[.int .i64 y, .string (Bs z), .string (Bs aa), Sl.v o, Sl.v p], .agg #[.int .i64 ab, .string (Bs ad), .string (Bs af), Sl.v ah, Sl.v ai]]) Try.func40 (by decide) rfl (map_arr (ml_cons (cv_get (hAp.get rfl) hg) (ml_cons (cv_get (hAp.get rfl) hg) ml_nil))) rfl) (fun hg => ig ⟨⟨(of_decide_eq_true (b_and_t (g_t (g_up hg))).1), (of_decide_eq_true (b_and_t (g_t (g_up hg))).2)⟩, (of_decide_eq_true (g_t hg))⟩ w hT.chg) fun _ _ _ e hE => ⟨_, e, hE, fun _ => Eq.refl _⟩
               ·intro a w hT
                have hAp := hT.ag s [] trivial (by kernel_rfl)
                have iP : a.tmps.getD 102 undef = .bool ((decide (d = 0)) && (decide (f = b))) := hT.vals 7 rfl 102 rfl
                have hAp := hAp.add iP
                have iQ : a.tmps.getD 105 undef = cV (true && (((decide (d = 0)) && (decide (f = b))) == true)) (.bool (decide (b = 0))) := hT.vals 10 rfl 105 rfl
                have hAp := hAp.add iQ
                have iR : a.tmps.getD 108 undef = cV ((true && (((decide (d = 0)) && (decide (f = b))) == true)) && ((decide (b = 0)) == true)) (.bool k) := hT.vals 13 rfl 108 rfl
                have hAp := hAp.add iR
                exact opk_gval hAp rfl rfl (g := true) (e := ((decide (d = 0)) && (decide (f = b)))) rfl (fun hg => r_pick_and (g := ((true && (((decide (d = 0)) && (decide (f = b))) == true)) && ((decide (b = 0)) == true))) (cv_get (hAp.get rfl) hg) (hAp.get rfl) (fun he => g_mkt hg he)) fun _ _ e => ⟨_, e, Chg.refl _ _, fun _ => Eq.refl _⟩
               ·intro a w hT
                have hAp := hT.ag s [] trivial (by kernel_rfl)
                have iS : a.tmps.getD 102 undef = .bool ((decide (d = 0)) && (decide (f = b))) := hT.vals 7 rfl 102 rfl
                have hAp := hAp.add iS
                have iT : a.tmps.getD 109 undef = cV (true && (((decide (d = 0)) && (decide (f = b))) == true)) (.bool ((decide (b = 0)) && k)) := hT.vals 14 rfl 109 rfl
                have hAp := hAp.add iT
                exact opk_gval hAp rfl rfl (g := true) (e := ((decide (d = 0)) && (decide (f = b)))) rfl (fun hg => r_move (cv_get (hAp.get rfl) hg)) fun _ _ e => ⟨_, e, Chg.refl _ _, fun _ => Eq.refl _⟩
               ·intro a w hT
                have hAp := hT.ag s [(8, .int .i64 b)] ⟨rfl, trivial⟩ (by kernel_rfl)
                have iU : a.tmps.getD 110 undef = cV (true && (((decide (d = 0)) && (decide (f = b))) == true)) (.bool ((decide (b = 0)) && k)) := hT.vals 15 rfl 110 rfl
                have hAp := hAp.add iU
                exact opk_gval hAp rfl rfl (g := (true && (((decide (d = 0)) && (decide (f = b))) == true))) (e := ((decide (b = 0)) && k)) rfl (fun hg => r_move (hAp.get rfl)) fun _ _ e => ⟨_, e, Chg.refl _ _, fun _ => Eq.refl _⟩
               ·intro a w hT
                have hAp := hT.ag s [] trivial (by kernel_rfl)
                have iV : a.tmps.getD 110 undef = cV (true && (((decide (d = 0)) && (decide (f = b))) == true)) (.bool ((decide (b = 0)) && k)) := hT.vals 15 rfl 110 rfl
                have hAp := hAp.add iV
                have iX : a.tmps.getD 111 undef = cV ((true && (((decide (d = 0)) && (decide (f = b))) == true)) && (((decide (b = 0)) && k) == false)) (.int .i64 b) := hT.vals 16 rfl 111 rfl
                have hAp := hAp.add iX
                exact opk_gval hAp rfl rfl (g := (true && (((decide (d = 0)) && (decide (f = b))) == true))) (e := ((decide (b = 0)) && k)) rfl (fun hg => r_gtr (cv_get (hAp.get rfl) hg) rfl) fun _ _ e => ⟨_, e, Chg.refl _ _, fun _ => Eq.refl _⟩
               ·intro a w hT
                have hAp := hT.ag s [] trivial (by kernel_rfl)
                have iY : a.tmps.getD 110 undef = cV (true && (((decide (d = 0)) && (decide (f = b))) == true)) (.bool ((decide (b = 0)) && k)) := hT.vals 15 rfl 110 rfl
                have hAp := hAp.add iY
                have iZ : a.tmps.getD 112 undef = cV ((true && (((decide (d = 0)) && (decide (f = b))) == true)) && (((decide (b = 0)) && k) == false)) (.bool (decide (0 < b))) := hT.vals 17 rfl 112 rfl
                have hAp := hAp.add iZ
                exact opk_gval hAp rfl rfl (g := (true && (((decide (d = 0)) && (decide (f = b))) == true))) (e := ((decide (b = 0)) && k)) rfl (fun hg => r_move (cv_get (hAp.get rfl) hg)) fun _ _ e => ⟨_, e, Chg.refl _ _, fun _ => Eq.refl _⟩
               ·intro a w hT
                have hAp := hT.ag s [(12, .pointer (some (⟨x, 0, none⟩ : Addr)))] ⟨rfl, trivial⟩ (by kernel_rfl)
                have i0 : a.tmps.getD 113 undef = cV ((true && (((decide (d = 0)) && (decide (f = b))) == true)) && (((decide (b = 0)) && k) == false)) (.bool (decide (0 < b))) := hT.vals 18 rfl 113 rfl
                have hAp := hAp.add i0
                exact opk_gval hAp rfl rfl (g := ((true && (((decide (d = 0)) && (decide (f = b))) == true)) && (((decide (b = 0)) && k) == false))) (e := (decide (0 < b))) rfl (fun hg => r_loadN (cs := [.int .i64 y, .string (Bs z), .string (Bs aa), Sl.v o, Sl.v p]) Try.underlying29 rfl ti_29 (hAp.get rfl) ((b9.ext hT.chg).part 0 _ rfl)) fun _ _ e => ⟨_, e, Chg.refl _ _, fun _ => Eq.refl _⟩
               ·intro a w hT
                have hAp := hT.ag s [(15, Sl.v l)] ⟨rfl, trivial⟩ (by kernel_rfl)
                have i1 : a.tmps.getD 113 undef = cV ((true && (((decide (d = 0)) && (decide (f = b))) == true)) && (((decide (b = 0)) && k) == false)) (.bool (decide (0 < b))) := hT.vals 18 rfl 113 rfl
                have hAp := hAp.add i1
                exact opk_gval hAp rfl rfl (g := ((true && (((decide (d = 0)) && (decide (f = b))) == true)) && (((decide (b = 0)) && k) == false))) (e := (decide (0 < b))) rfl (fun hg => r_move (hAp.get rfl)) fun _ _ e => ⟨_, e, Chg.refl _ _, fun _ => Eq.refl _⟩
               ·intro a w hT
                have hAp := hT.ag s [(8, .int .i64 b)] ⟨rfl, trivial⟩ (by kernel_rfl)
                have i2 : a.tmps.getD 113 undef = cV ((true && (((decide (d = 0)) && (decide (f = b))) == true)) && (((decide (b = 0)) && k) == false)) (.bool (decide (0 < b))) := hT.vals 18 rfl 113 rfl
                have hAp := hAp.add i2
                exact opk_gval hAp rfl rfl (g := ((true && (((decide (d = 0)) && (decide (f = b))) == true)) && (((decide (b = 0)) && k) == false))) (e := (decide (0 < b))) rfl (fun hg => r_move (hAp.get rfl)) fun _ _ e => ⟨_, e, Chg.refl _ _, fun _ => Eq.refl _⟩
               ·intro a w hT
                have hAp := hT.ag s [] trivial (by kernel_rfl)
                have i3 : a.tmps.getD 113 undef = cV ((true && (((decide (d = 0)) && (decide (f = b))) == true)) && (((decide (b = 0)) && k) == false)) (.bool (decide (0 < b))) := hT.vals 18 rfl 113 rfl
                have hAp := hAp.add i3
                have i4 : a.tmps.getD 116 undef = cV (((true && (((decide (d = 0)) && (decide (f = b))) == true)) && (((decide (b = 0)) && k) == false)) && ((decide (0 < b)) == true)) (.int .i64 b) := hT.vals 21 rfl 116 rfl
                have hAp := hAp.add i4
                exact opk_gval hAp rfl rfl (g := ((true && (((decide (d = 0)) && (decide (f = b))) == true)) && (((decide (b = 0)) && k) == false))) (e := (decide (0 < b))) rfl (fun hg => r_subI (cv_get (hAp.get rfl) hg) rfl (ii ⟨⟨(of_decide_eq_true (b_and_t (g_t (g_up (g_up hg)))).1), (of_decide_eq_true (b_and_t (g_t (g_up (g_up hg)))).2)⟩, ((b_and_f (g_f (g_up hg))).imp (fun h => (of_decide_eq_false h)) (fun h => h)), (of_decide_eq_true (g_t hg))⟩)) fun _ _ e => ⟨_, e, Chg.refl _ _, fun _ => Eq.refl _⟩
               ·intro a w hT
                have hAp := hT.ag s [] trivial (by kernel_rfl)
                have i5 : a.tmps.getD 113 undef = cV ((true && (((decide (d = 0)) && (decide (f = b))) == true)) && (((decide (b = 0)) && k) == false)) (.bool (decide (0 < b))) := hT.vals 18 rfl 113 rfl
                have hAp := hAp.add i5
                have i6 : a.tmps.getD 115 undef = cV (((true && (((decide (d = 0)) && (decide (f = b))) == true)) && (((decide (b = 0)) && k) == false)) && ((decide (0 < b)) == true)) (Sl.v l) := hT.vals 20 rfl 115 rfl
                have hAp := hAp.add i6
                have i7 : a.tmps.getD 117 undef = cV (((true && (((decide (d = 0)) && (decide (f = b))) == true)) && (((decide (b = 0)) && k) == false)) && ((decide (0 < b)) == true)) (.int .i64 (b - 1)) := hT.vals 22 rfl 117 rfl
                have hAp := hAp.add i7
                exact opk_gval hAp rfl rfl (g := ((true && (((decide (d = 0)) && (decide (f = b))) == true)) && (((decide (b = 0)) && k) == false))) (e := (decide (0 < b))) rfl (fun hg => r_indexAddr (cv_get (hAp.get rfl) hg) (cv_get (hAp.get rfl) hg) Try.underlying27 ti_29 (dc ⟨⟨(of_decide_eq_true (b_and_t (g_t (g_up (g_up hg)))).1), (of_decide_eq_true (b_and_t (g_t (g_up (g_up hg)))).2)⟩, ((b_and_f (g_f (g_up hg))).imp (fun h => (of_decide_eq_false h)) (fun h => h)), (of_decide_eq_true (g_t hg))⟩).1 (dc ⟨⟨(of_decide_eq_true (b_and_t (g_t (g_up (g_up hg)))).1), (of_decide_eq_true (b_and_t (g_t (g_up (g_up hg)))).2)⟩, ((b_and_f (g_f (g_up hg))).imp (fun h => (of_decide_eq_false h)) (fun h => h)), (of_decide_eq_true (g_t hg))⟩).2) fun _ _ e => ⟨_, e, Chg.refl _ _, fun _ => Eq.refl _⟩
               ·intro a w hT
                have hAp := hT.ag s [] trivial (by kernel_rfl)
                have i8 : a.tmps.getD 113 undef = cV ((true && (((decide (d = 0)) && (decide (f = b))) == true)) && (((decide (b = 0)) && k) == false)) (.bool (decide (0 < b))) := hT.vals 18 rfl 113 rfl
                have hAp := hAp.add i8
                have i9 : a.tmps.getD 118 undef = cV (((true && (((decide (d = 0)) && (decide (f = b))) == true)) && (((decide (b = 0)) && k) == false)) && ((decide (0 < b)) == true)) (.pointer (some (bh.add ((b - 1).toNat * 5)))) := hT.vals 23 rfl 118 rfl
                have hAp := hAp.add i9
                exact opk_gval hAp rfl rfl (g := ((true && (((decide (d = 0)) && (decide (f = b))) == true)) && (((decide (b = 0)) && k) == false))) (e := (decide (0 < b))) rfl (fun hg => r_loadN Try.underlying29 rfl ti_29 (cv_get (hAp.get rfl) hg) ((il ⟨⟨(of_decide_eq_true (b_and_t (g_t (g_up (g_up hg)))).1), (of_decide_eq_true (b_and_t (g_t (g_up (g_up hg)))).2)⟩, ((b_and_f (g_f (g_up hg))).imp (fun h => (of_decide_eq_false h)) (fun h => h)), (of_decide_eq_true (g_t hg))⟩).ext hT.chg)) fun _ _ e => ⟨_, e, Chg.refl _ _, fun _ => Eq.refl _⟩
               ·intro a w hT
                have hAp := hT.ag s [] trivial (by kernel_rfl)
                have ja : a.tmps.getD 113 undef = cV ((true && (((decide (d = 0)) && (decide (f = b))) == true)) && (((decide (b = 0)) && k) == false)) (.bool (decide (0 < b))) := hT.vals 18 rfl 113 rfl
                have hAp := hAp.add ja
                have jb : a.tmps.getD 114 undef = cV (((true && (((decide (d = 0)) && (decide (f = b))) == true)) && (((decide (b = 0)) && k) == false)) && ((decide (0 < b)) == true)) (.agg #[.int .i64 y, .string (Bs z), .string (Bs aa), Sl.v o, Sl.v p]) := hT.vals 19 rfl 114 rfl
                have hAp := hAp.add jb
                have jc : a.tmps.getD 119 undef = cV (((true && (((decide (d = 0)) && (decide (f = b))) == true)) && (((decide (b = 0)) && k) == false)) && ((decide (0 < b)) == true)) (.agg #[.int .i64 a3, .string (Bs a4), .string (Bs a5), Sl.v a6, Sl.v a7]) := hT.vals 24 rfl 119 rfl
                have hAp := hAp.add jc
                exact opk_gcall hAp rfl rfl (g := ((true && (((decide (d = 0)) && (decide (f = b))) == true)) && (((decide (b = 0)) && k) == false))) (e := (decide (0 < b))) rfl (fun hg => r_call (args := #[.agg #[.int .i64 y, .string (Bs z), .string (Bs aa), Sl.v o, Sl.v p], .agg #[.int .i64 a3, .string (Bs a4), .string (Bs a5), Sl.v a6, Sl.v a7]]) Try.func40 (by decide) rfl (map_arr (ml_cons (cv_get (hAp.get rfl) hg) (ml_cons (cv_get (hAp.get rfl) hg) ml_nil))) rfl) (fun hg => io ⟨⟨(of_decide_eq_true (b_and_t (g_t (g_up (g_up hg)))).1), (of_decide_eq_true (b_and_t (g_t (g_up (g_up hg)))).2)⟩, ((b_and_f (g_f (g_up hg))).imp (fun h => (of_decide_eq_false h)) (fun h => h)), (of_decide_eq_true (g_t hg))⟩ w hT.chg) fun _ _ _ e hE => ⟨_, e, hE, fun _ => Eq.refl _⟩
               ·intro a w hT
                have hAp := hT.ag s [] trivial (by kernel_rfl)
                have jd : a.tmps.getD 110 undef = cV (true && (((decide (d = 0)) && (decide (f = b))) == true)) (.bool ((decide (b = 0)) && k)) := hT.vals 15 rfl 110 rfl
                have hAp := hAp.add jd
                have jf : a.tmps.getD 113 undef = cV ((true && (((decide (d = 0)) && (decide (f = b))) == true)) && (((decide (b = 0)) && k) == false)) (.bool (decide (0 < b))) := hT.vals 18 rfl 113 rfl
                have hAp := hAp.add jf
                have jg : a.tmps.getD 120 undef = cV (((true && (((decide (d = 0)) && (decide (f = b))) == true)) && (((decide (b = 0)) && k) == false)) && ((decide (0 < b)) == true)) (.bool aj) := hT.vals 25 rfl 120 rfl
                have hAp := hAp.add jg
                exact opk_gval hAp rfl rfl (g := (true && (((decide (d = 0)) && (decide (f = b))) == true))) (e := ((decide (b = 0)) && k)) rfl (fun hg => r_pick_and (g := (((true && (((decide (d = 0)) && (decide (f = b))) == true)) && (((decide (b = 0)) && k) == false)) && ((decide (0 < b)) == true))) (cv_get (hAp.get rfl) hg) (hAp.get rfl) (fun he => g_mkt hg he)) fun _ _ e => ⟨_, e, Chg.refl _ _, fun _ => Eq.refl _⟩
               ·intro a w hT
                have hAp := hT.ag s [] trivial (by kernel_rfl)
                have jh : a.tmps.getD 102 undef = .bool ((decide (d = 0)) && (decide (f = b))) := hT.vals 7 rfl 102 rfl
                have hAp := hAp.add jh
                have ji : a.tmps.getD 110 undef = cV (true && (((decide (d = 0)) && (decide (f = b))) == true)) (.bool ((decide (b = 0)) && k)) := hT.vals 15 rfl 110 rfl
                have hAp := hAp.add ji
                have jj : a.tmps.getD 121 undef = cV ((true && (((decide (d = 0)) && (decide (f = b))) == true)) && (((decide (b = 0)) && k) == false)) (.bool ((decide (0 < b)) && aj)) := hT.vals 26 rfl 121 rfl
                have hAp := hAp.add jj
                exact opk_gval hAp rfl rfl (g := true) (e := ((decide (d = 0)) && (decide (f = b)))) rfl (fun hg => r_pick_or (g := ((true && (((decide (d = 0)) && (decide (f = b))) == true)) && (((decide (b = 0)) && k) == false))) (cv_get (hAp.get rfl) hg) (hAp.get rfl) (fun he => g_mkf hg he)) fun _ _ e => ⟨_, e, Chg.refl _ _, fun _ => Eq.refl _⟩
               ·intro a w hT
                have hAp := hT.ag s [] trivial (by kernel_rfl)
                have jk : a.tmps.getD 102 undef = .bool ((decide (d = 0)) && (decide (f = b))) := hT.vals 7 rfl 102 rfl
                have hAp := hAp.add jk
                have jl : a.tmps.getD 122 undef = cV (true && (((decide (d = 0)) && (decide (f = b))) == true)) (.bool (((decide (b = 0)) && k) || ((decide (0 < b)) && aj))) := hT.vals 27 rfl 122 rfl
                have hAp := hAp.add jl
                exact ovr hAp rfl (r_pick_and (g := (true && (((decide (d = 0)) && (decide (f = b))) == true))) (hAp.get rfl) (hAp.get rfl) (fun he => g_mkt rfl he)) fun _ => Eq.refl _
               ·intro a w hT
                have hAp := hT.ag s [] trivial (by kernel_rfl)
                have jm : a.tmps.getD 123 undef = .bool (((decide (d = 0)) && (decide (f = b))) && (((decide (b = 0)) && k) || ((decide (0 < b)) && aj))) := hT.vals 28 rfl 123 rfl
                have hAp := hAp.add jm
                exact ovr hAp rfl (r_move (hAp.get rfl)) fun _ => Eq.refl _
               ·intro a w hT
                have hAp := hT.ag s [] trivial (by kernel_rfl)
                have jn : a.tmps.getD 124 undef = .bool (((decide (d = 0)) && (decide (f = b))) && (((decide (b = 0)) && k) || ((decide (0 < b)) && aj))) := hT.vals 29 rfl 124 rfl
                have hAp := hAp.add jn
                exact opk_gcall hAp rfl rfl (g := true) (e := (((decide (d = 0)) && (decide (f = b))) && (((decide (b = 0)) && k) || ((decide (0 < b)) && aj)))) rfl (fun hg => r_call (args := #[]) Try.func37 (by decide) rfl (map_arr ml_nil) rfl) (fun hg => iq ⟨⟨(of_decide_eq_true (b_and_t (b_and_t (g_t hg)).1).1), (of_decide_eq_true (b_and_t (b_and_t (g_t hg)).1).2)⟩, ((b_or_t (b_and_t (g_t hg)).2).imp (fun h => ⟨(of_decide_eq_true (b_and_t h).1), (b_and_t h).2⟩) (fun h => ⟨(of_decide_eq_true (b_and_t h).1), (b_and_t h).2⟩))⟩ w hT.chg) fun _ _ _ e hE => ⟨_, e, hE, fun _ => Eq.refl _⟩
               ·intro a w hT
                have hAp := hT.ag s [] trivial (by kernel_rfl)
                have jo : a.tmps.getD 124 undef = .bool (((decide (d = 0)) && (decide (f = b))) && (((decide (b = 0)) && k) || ((decide (0 < b)) && aj))) := hT.vals 29 rfl 124 rfl
                have hAp := hAp.add jo
                have jp : a.tmps.getD 125 undef = cV (true && ((((decide (d = 0)) && (decide (f = b))) && (((decide (b = 0)) && k) || ((decide (0 < b)) && aj))) == true)) (.bool ax) := hT.vals 30 rfl 125 rfl
                have hAp := hAp.add jp
                exact ovr hAp rfl (r_pick_and (g := (true && ((((decide (d = 0)) && (decide (f = b))) && (((decide (b = 0)) && k) || ((decide (0 < b)) && aj))) == true))) (hAp.get rfl) (hAp.get rfl) (fun he => g_mkt rfl he)) fun _ => Eq.refl _
               ·intro a w hT
                have hAp := hT.ag s [] trivial (by kernel_rfl)
                have jq : a.tmps.getD 126 undef = .bool ((((decide (d = 0)) && (decide (f = b))) && (((decide (b = 0)) && k) || ((decide (0 < b)) && aj))) && ax) := hT.vals 31 rfl 126 rfl
                have hAp := hAp.add jq
                exact ovr hAp rfl (r_assign (hAp.get rfl)) fun _ => Eq.refl _
               ·intro jr bi ca js jt
                have ju := js [] trivial (by kernel_rfl)
                have jv : jr.tmps.getD 6 undef = .bool ((((decide (d = 0)) && (decide (f = b))) && (((decide (b = 0)) && k) || ((decide (0 < b)) && aj))) && ax) := jt 32 rfl 6 rfl
                have jx := ju.add jv
                have ky := db.ext ca
                have kz := b9.ext ca
                have jy : Chg [] aD bi := ca
                refine PR_end (by kernel_rfl) ?_
                have dd := jx.keep [(6, .bool ((((decide (d = 0)) && (decide (f = b))) && (((decide (b = 0)) && k) || ((decide (0 < b)) && aj))) && ax))] ⟨rfl, trivial⟩
                refine then_normal ?_
                refine wp_ret ?_
                have jz := ir bi    jy
                exact res_all (vs := [.bool ((((decide (d = 0)) && (decide (f = b))) && (((decide (b = 0)) && k) || ((decide (0 < b)) && aj))) && ax)]) rfl dd ⟨res_of_tmp dd rfl, trivial⟩ jz
end Go.Proofs.Ytghmgfkdnolcdaa
