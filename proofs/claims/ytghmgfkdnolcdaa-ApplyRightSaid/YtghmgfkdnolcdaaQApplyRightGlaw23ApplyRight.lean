/-
  PRINTED BY PROGRAM: for each function its condition (vc), and that this suffices (ok).
-/
import Derived.Test.YtghmgfkdnolcdaaQApplyRightGT
namespace Go.Proofs.Ytghmgfkdnolcdaa
open Go.RowKit
set_option linter.unusedVariables false
set_option maxHeartbeats 1000000
set_option maxRecDepth 10000
def law23_ApplyRight.vc (ab : Sl) (f : Sl) (R : Value → World → Prop) (w : World) : Prop :=
CallK Try.prog 36 #[Sl.v f] w [] (fun v w8 => ∃ (an : Bool), v = .bool an ∧
((an = false) →
CallK Try.prog 37 #[] w8 [] (fun v a1 => ∃ (ao : Bool), v = .bool ao ∧
R (.bool ao) a1)) ∧
((an = true) →
CallK Try.prog 20 #[Sl.v ab] w8 [] (fun v ap => ∃ (s : Int) (t : Str) (u : Str) (x : Sl) (y : Sl), v = .agg #[.int .i64 s, .string (Bs t), .string (Bs u), Sl.v x, Sl.v y] ∧
∀ (z : World) (ad : Nat), New ap ad z → Chg [] ap z →
∃ am : Sl → World → Prop, (∀ p : Sl, ∀ w' w'' : World, Ext w' w'' → am p w' → am p w'') ∧
(∀ w' : World, Ext z w' → Calls Try.prog 39 #[Sl.v f] w' (Ret fun v w'' => Ext w' w'' ∧ ∃ p : Sl, v = Sl.v p ∧ am p w'')) ∧
∃ j : Int, ∃ k : Str, ∃ l : Str, ∃ i : Int, ∃ o : Int, ∃ af : Sl → Sl → World → Prop, (∀ b : Sl, ∀ d : Sl, ∀ w' w'' : World, Ext w' w'' → af b d w' → af b d w'') ∧
(∀ p : Sl, ∀ w' : World, Ext z w' → am p w' → Calls Try.prog 38 #[.agg #[.int .i64 s, .string (Bs t), .string (Bs u), Sl.v x, Sl.v y], Sl.v p] w' (Ret fun v w'' => Ext w' w'' ∧ ∃ b : Sl, ∃ d : Sl, v = .tuple #[.agg #[.int .i64 j, .string (Bs k), .string (Bs l), Sl.v b, Sl.v d], .int .i64 i, .int .i64 o] ∧ af b d w'')) ∧
∀ (ah : World) (b : Sl) (d : Sl) (m : Nat), Ext z ah → af b d ah → z.heap.size ≤ m → Box ah m 29 [.int .i64 0, .string (Bs ([] : Str)), .string (Bs ([] : Str)), Sl.v Sl.nil, Sl.v Sl.nil] → 
∀ (ai : World), Chg [m] ah ai →
((o ≠ 0) →
∀ (aj : World), Chg [] ai aj →
CallK Try.prog 40 #[.agg #[.int .i64 j, .string (Bs k), .string (Bs l), Sl.v b, Sl.v d], .agg #[.int .i64 0, .string (Bs ([] : Str)), .string (Bs ([] : Str)), Sl.v Sl.nil, Sl.v Sl.nil]] aj [m] (fun v aq => ∃ (q : Bool), v = .bool q ∧
∃ (ar : Bool), ((((q = true) ∧ (i < (f.n : Int)))) → Calls Try.prog 37 #[] aq (Ret fun v w' => Ext aq w' ∧ v = .bool ar)) ∧
(∀ au : World, Ext aq au →
R (.bool ((q && (decide (i < (f.n : Int)))) && ar)) au))) ∧
((¬ (o ≠ 0)) →
∀ (aj : World), Chg [] ai aj →
CallK Try.prog 41 #[.agg #[.int .i64 j, .string (Bs k), .string (Bs l), Sl.v b, Sl.v d]] aj [m] (fun v av => ∃ (r : Bool), v = .bool r ∧
∃ (ax : Bool), ((((r = true) ∧ (i = (f.n : Int)))) → Calls Try.prog 37 #[] av (Ret fun v w' => Ext av w' ∧ v = .bool ax)) ∧
(∀ ay : World, Ext av ay →
R (.bool ((r && (decide (i = (f.n : Int)))) && ax)) ay))))))
theorem law23_ApplyRight.ok (ab : Sl) (f : Sl) {R : Value → World → Prop} {w : World} (a2 : law23_ApplyRight.vc ab f R w) : Calls Try.prog 8 #[Sl.v ab, Sl.v f] w (Ret R) := by
 refine enter [Sl.v ab, Sl.v f] Try.func8 rfl Try.ntmps8 rfl ?_
 intro a0 bG
 unfold law23_ApplyRight.vc at a2
 refine wp_seq (wp_region_lit ?_)
 refine sqv bG rfl (r_assign rfl) fun _ bH => ?_
 refine sq_end ?_
 have a3 := bH.keep [(0, Sl.v ab), (1, Sl.v f)] ⟨rfl, rfl, trivial⟩
 refine then_normal (wp_seq (wp_seq (wp_region_lit ?_)))
 refine sqv a3 rfl (r_move (a3.get rfl)) fun _ a4 => ?_
 refine sq (opk_call a4 rfl (r_call (args := #[Sl.v f]) Try.func36 (by decide) rfl (map_arr (ml_cons (a4.get rfl) ml_nil)) rfl) a2 fun a7 dm w8 a5 _ dn dp bI => ?_)
 obtain ⟨an, rfl, a6⟩ := bI
 refine sqv a5 rfl (r_not (a5.get rfl)) fun _ bJ => ?_
 refine sq_end ?_
 have aB := bJ.keep [(0, Sl.v ab), (1, Sl.v f), (11, .bool (!an))] ⟨rfl, rfl, rfl, trivial⟩
 refine then_normal ?_
 refine wp_cond_split (aB.get rfl) (fun hc => ?_) (fun hc => ?_)
 ·have bK := a6.1 (b_not_t hc)
  clear hc
  refine wp_seq (wp_region_lit ?_)
  refine sq (opk_call aB rfl (r_call (args := #[]) Try.func37 (by decide) rfl (map_arr ml_nil) rfl) bK fun dq dr a1 hA19 _ ds dt bL => ?_)
  obtain ⟨ao, rfl, bM⟩ := bL
  refine sqv hA19 rfl (r_assign (hA19.get rfl)) fun _ bN => ?_
  refine sq_end ?_
  have a8 := bN.keep [(4, .bool ao)] ⟨rfl, trivial⟩
  refine then_normal ?_
  refine wp_ret ?_
  refine then_ret ?_
  exact res_all (vs := [.bool ao]) rfl a8 ⟨res_of_tmp a8 rfl, trivial⟩ bM
 ·have bO := a6.2 (b_not_f hc)
  clear hc
  refine wp_skip ?_
  refine then_normal (wp_seq (wp_region_lit ?_))
  refine sqv aB rfl (r_move (aB.get rfl)) fun _ a9 => ?_
  refine sq (opk_call a9 rfl (r_call (args := #[Sl.v ab]) Try.func20 (by decide) rfl (map_arr (ml_cons (a9.get rfl) ml_nil)) rfl) bO fun du dv ap bP _ dx dy bQ => ?_)
  obtain ⟨s, t, u, x, y, rfl, bR⟩ := bQ
  refine sq (opk_new (fun B => .pointer (some ⟨B, 0, none⟩)) bP rfl (r_alloc (cs := [.int .i64 0, .string (Bs ([] : Str)), .string (Bs ([] : Str)), Sl.v Sl.nil, Sl.v Sl.nil]) ti_29 rfl) fun dz ba ad bS bT bb aG _ => ?_)
  have bd : New ap ad ba := bT
  have bU : Chg [] ap ba := bS
  refine sq (opk_store aG bb (r_store (vs := [.int .i64 s, .string (Bs t), .string (Bs u), Sl.v x, Sl.v y]) (aG.get rfl) (aG.get rfl) rfl ti_29 bb rfl (ones_all [.int .i64 s, .string (Bs t), .string (Bs u), Sl.v x, Sl.v y] rfl)) fun dA bV bf bX bY => ?_)
  have bZ : Box bV ad 29 [.int .i64 s, .string (Bs t), .string (Bs u), Sl.v x, Sl.v y] := bX
  have b0 := bU.storeNew bd bf
  have b1 := bd.up bf.size
  refine sq_end ?_
  have aa := bY.keep [(1, Sl.v f), (5, .pointer (some (⟨ad, 0, none⟩ : Addr)))] ⟨rfl, rfl, trivial⟩
  refine then_normal (wp_seq ?_)
  refine draw' (by kernel_rfl) fun z aH => ?_
  have aI := bZ.ext aH
  have b2 := b0.more aH
  have b3 := b1.up aH.size
  have b4 := bR z ad b3  b2
  obtain ⟨am, b5, b6, b7⟩ := b4
  obtain ⟨j, k, l, i, o, af, aJ, b8, b9⟩ := b7
  refine startF (D := [[], [], [1], [0, 1, 2], [0, 1, 2, 3], [0, 1, 2, 3, 4], [0, 1, 2, 3, 4], [0, 1, 2, 3, 4], [], [0, 1, 2, 3, 4, 5, 8], [0, 1, 2, 3, 4, 5, 6, 8, 9], [0, 1, 2, 3, 4, 5, 6, 7, 8, 9, 10]]) (Fs := [6, 7]) (Ef := [(6, fun v _ => v = .int .i64 i), (7, fun v _ => v = .int .i64 o)]) (by kernel_rfl) ?_
  refine parF (D := [[], [], [1], [0, 1, 2], [0, 1, 2, 3], [0, 1, 2, 3, 4], [0, 1, 2, 3, 4], [0, 1, 2, 3, 4], [], [0, 1, 2, 3, 4, 5, 8], [0, 1, 2, 3, 4, 5, 6, 8, 9], [0, 1, 2, 3, 4, 5, 6, 7, 8, 9, 10]]) (S := [0, 1, 2, 3, 4, 5, 8]) (F := []) (KE := [0, 1, 2, 3, 4, 5, 8]) (E := [(0, fun v _ => v = .agg #[.int .i64 s, .string (Bs t), .string (Bs u), Sl.v x, Sl.v y]), (1, fun v _ => v = Sl.v f), (2, fun v w' => ∃ p : Sl, am p w' ∧ v = Sl.v p), (3, fun v w' => ∃ b : Sl, ∃ d : Sl, af b d w' ∧ v = .tuple #[.agg #[.int .i64 j, .string (Bs k), .string (Bs l), Sl.v b, Sl.v d], .int .i64 i, .int .i64 o]), (4, fun v w' => ∃ b : Sl, ∃ d : Sl, af b d w' ∧ v = .tuple #[.agg #[.int .i64 j, .string (Bs k), .string (Bs l), Sl.v b, Sl.v d], .int .i64 i, .int .i64 o]), (5, fun v w' => ∃ b : Sl, ∃ d : Sl, af b d w' ∧ v = .agg #[.int .i64 j, .string (Bs k), .string (Bs l), Sl.v b, Sl.v d]), (8, fun v w' => ∃ m : Nat, z.heap.size ≤ m ∧ Box w' m 29 [.int .i64 0, .string (Bs ([] : Str)), .string (Bs ([] : Str)), Sl.v Sl.nil, Sl.v Sl.nil] ∧ v = .pointer (some (⟨m, 0, none⟩ : Addr)))]) aa rfl (by kernel_rfl) ⟨fun _ _ _ _ h => h, fun _ _ _ _ h => h, fun _ _ _ hE ⟨p, h0_, e⟩ => ⟨p, (b5 p _ _ hE h0_), e⟩, fun _ _ _ hE ⟨b, d, h0_, e⟩ => ⟨b, d, (aJ b d _ _ hE h0_), e⟩, fun _ _ _ hE ⟨b, d, h0_, e⟩ => ⟨b, d, (aJ b d _ _ hE h0_), e⟩, fun _ _ _ hE ⟨b, d, h0_, e⟩ => ⟨b, d, (aJ b d _ _ hE h0_), e⟩, fun _ _ _ hE ⟨m, h0_, h1_, e⟩ => ⟨m, h0_, (h1_.ext hE), e⟩, fun _ _ _ _ h => h, fun _ _ _ _ h => h, trivial⟩ ⟨?_, ?_, ?_, ?_, ?_, ?_, ?_, ?_, ?_, trivial⟩ ?_
  ·intro a w hT
   have hAp := hT.ag aa [(5, .pointer (some (⟨ad, 0, none⟩ : Addr)))] ⟨rfl, trivial⟩ (by kernel_rfl)
   exact ovr hAp rfl (r_loadN (cs := [.int .i64 s, .string (Bs t), .string (Bs u), Sl.v x, Sl.v y]) Try.underlying29 rfl ti_29 (hAp.get rfl) ((aI.ext hT.chg).part 0 _ rfl)) fun _ => Eq.refl _
  ·intro a w hT
   have hAp := hT.ag aa [(1, Sl.v f)] ⟨rfl, trivial⟩ (by kernel_rfl)
   exact ovr hAp rfl (r_move (hAp.get rfl)) fun _ => Eq.refl _
  ·intro a w hT
   have hAp := hT.ag aa [] trivial (by kernel_rfl)
   have ca : a.tmps.getD 17 undef = Sl.v f := hT.vals 1 rfl 17 rfl
   have hAp := hAp.add ca
   exact opk_callX hAp rfl (r_call (args := #[Sl.v f]) Try.func39 (by decide) rfl (map_arr (ml_cons (hAp.get rfl) ml_nil)) rfl) (b6 w hT.chg) fun _ _ _ _ e ⟨hE, p, he, hV⟩ => ⟨_, e, hE, fun _ => ⟨p, hV, he⟩⟩
  ·intro a w hT
   have hAp := hT.ag aa [] trivial (by kernel_rfl)
   have cb : a.tmps.getD 16 undef = .agg #[.int .i64 s, .string (Bs t), .string (Bs u), Sl.v x, Sl.v y] := hT.vals 0 rfl 16 rfl
   have hAp := hAp.add cb
   obtain ⟨p, cc, cd⟩ := hT.vals 2 rfl 18 rfl
   have hAp := hAp.add cd
   exact opk_callX hAp rfl (r_call (args := #[.agg #[.int .i64 s, .string (Bs t), .string (Bs u), Sl.v x, Sl.v y], Sl.v p]) Try.func38 (by decide) rfl (map_arr (ml_cons (hAp.get rfl) (ml_cons (hAp.get rfl) ml_nil))) rfl) (b8 p w hT.chg cc) fun _ _ _ _ e ⟨hE, b, d, he, hV⟩ => ⟨_, e, hE, fun _ => ⟨b, d, hV, he⟩⟩
  ·intro a w hT
   have hAp := hT.ag aa [] trivial (by kernel_rfl)
   obtain ⟨b, d, cf, cg⟩ := hT.vals 3 rfl 19 rfl
   have hAp := hAp.add cg
   exact opk_val hAp rfl (r_move (hAp.get rfl)) fun _ _ e => ⟨_, e, Chg.refl _ _, fun _ => ⟨b, d, cf, rfl⟩⟩
  ·intro a w hT
   have hAp := hT.ag aa [] trivial (by kernel_rfl)
   obtain ⟨b, d, ch, ci⟩ := hT.vals 4 rfl 15 rfl
   have hAp := hAp.add ci
   exact opk_val hAp rfl (r_extract (hAp.get rfl) rfl) fun _ _ e => ⟨_, e, Chg.refl _ _, fun _ => ⟨b, d, ch, rfl⟩⟩
  ·intro a w hT
   have hAp := hT.ag aa [] trivial (by kernel_rfl)
   exact opk_new (fun B => .pointer (some ⟨B, 0, none⟩)) hAp rfl (r_alloc (cs := [.int .i64 0, .string (Bs ([] : Str)), .string (Bs ([] : Str)), Sl.v Sl.nil, Sl.v Sl.nil]) ti_29 rfl) fun _ dB m cj ck cl _ e => ⟨_, e, cj, fun _ => ⟨m, Nat.le_trans hT.chg.size ck.ge, cl, rfl⟩⟩
  ·intro a w hT
   have hAp := hT.ag aa [] trivial (by kernel_rfl)
   obtain ⟨b, d, dC, cm⟩ := hT.vals 4 rfl 15 rfl
   have hAp := hAp.add cm
   exact ovr hAp rfl (r_extract (hAp.get rfl) rfl) fun _ => Eq.refl _
  ·intro a w hT
   have hAp := hT.ag aa [] trivial (by kernel_rfl)
   obtain ⟨b, d, dD, cn⟩ := hT.vals 4 rfl 15 rfl
   have hAp := hAp.add cn
   exact ovr hAp rfl (r_extract (hAp.get rfl) rfl) fun _ => Eq.refl _
  ·intro dF ah aK co aL
   have cp := co [(1, Sl.v f)] ⟨rfl, trivial⟩ (by kernel_rfl)
   obtain ⟨ak, al, dG, cq⟩ := aL 4 rfl 15 rfl
   have cr := cp.add cq
   obtain ⟨b, d, ct, cu⟩ := aL 5 rfl 20 rfl
   have cv := cr.add cu
   obtain ⟨m, bg, aM, cx⟩ := aL 8 rfl 6 rfl
   have aC := cv.add cx
   have cy := aI.ext aK
   have dH : Chg [] z ah := aK
   have cz := b9 ah b d m aK ct bg aM
   have cA : ad ≠ m := Nat.ne_of_lt (Nat.lt_of_lt_of_le aI.lt bg)
   refine oneF (c := 9) aC rfl (by kernel_rfl) (constF ⟨fun _ _ _ h => h, fun _ _ _ h => h, trivial⟩) ⟨?_, ?_, trivial⟩ ?_
   ·intro a hT
    have hAp := hT.ag aC [(15, .tuple #[.agg #[.int .i64 j, .string (Bs k), .string (Bs l), Sl.v ak, Sl.v al], .int .i64 i, .int .i64 o])] ⟨rfl, trivial⟩ (by kernel_rfl)
    exact opk_val hAp rfl (r_extract (hAp.get rfl) rfl) fun _ _ e => ⟨_, e, rfl, fun _ => Eq.refl _⟩
   ·intro a hT
    have hAp := hT.ag aC [(15, .tuple #[.agg #[.int .i64 j, .string (Bs k), .string (Bs l), Sl.v ak, Sl.v al], .int .i64 i, .int .i64 o])] ⟨rfl, trivial⟩ (by kernel_rfl)
    exact opk_val hAp rfl (r_extract (hAp.get rfl) rfl) fun _ _ e => ⟨_, e, rfl, fun _ => Eq.refl _⟩
   ·intro dI hT
    have aN := hT.ag aC [(1, Sl.v f), (6, .pointer (some (⟨m, 0, none⟩ : Addr))), (15, .tuple #[.agg #[.int .i64 j, .string (Bs k), .string (Bs l), Sl.v ak, Sl.v al], .int .i64 i, .int .i64 o]), (20, .agg #[.int .i64 j, .string (Bs k), .string (Bs l), Sl.v b, Sl.v d])] ⟨rfl, rfl, rfl, rfl, trivial⟩ (by kernel_rfl)
    refine opk_storeF aN aM (r_store (vs := [.int .i64 j, .string (Bs k), .string (Bs l), Sl.v b, Sl.v d]) (aN.get rfl) (aN.get rfl) rfl ti_29 aM rfl (ones_all [.int .i64 j, .string (Bs k), .string (Bs l), Sl.v b, Sl.v d] rfl)) fun ai bh cB az => ⟨undef, Eq.refl _, ?_⟩
    have cC : Box ai m 29 [.int .i64 j, .string (Bs k), .string (Bs l), Sl.v b, Sl.v d] := cB
    have cD := cy.keep bh (by simpa using cA)
    have cF : Chg [m] ah ai := bh
    have bi := cz ai    cF
    refine parF (D := [[], [], [1], [0, 1, 2], [0, 1, 2, 3], [0, 1, 2, 3, 4], [0, 1, 2, 3, 4], [0, 1, 2, 3, 4], [], [0, 1, 2, 3, 4, 5, 8], [0, 1, 2, 3, 4, 5, 6, 8, 9], [0, 1, 2, 3, 4, 5, 6, 7, 8, 9, 10]]) (S := [10, 11]) (F := []) (KE := [10, 11]) (E := [(10, fun v _ => v = .int .i64 i), (11, fun v _ => v = .int .i64 o)]) az rfl (by kernel_rfl) ⟨fun _ _ _ _ h => h, fun _ _ _ _ h => h, fun _ _ _ _ h => h, fun _ _ _ _ h => h, trivial⟩ ⟨?_, ?_, ?_, ?_, trivial⟩ ?_
    ·intro a w hT
     have hAp := hT.ag az [] trivial (by kernel_rfl)
     have cG : a.tmps.getD 21 undef = .int .i64 i := hT.vals 6 rfl 21 rfl
     have hAp := hAp.add cG
     exact ovr hAp rfl (r_assign (hAp.get rfl)) fun _ => Eq.refl _
    ·intro a w hT
     have hAp := hT.ag az [] trivial (by kernel_rfl)
     have cH : a.tmps.getD 22 undef = .int .i64 o := hT.vals 7 rfl 22 rfl
     have hAp := hAp.add cH
     exact ovr hAp rfl (r_assign (hAp.get rfl)) fun _ => Eq.refl _
    ·intro a w hT
     have hAp := hT.ag az [(15, .tuple #[.agg #[.int .i64 j, .string (Bs k), .string (Bs l), Sl.v ak, Sl.v al], .int .i64 i, .int .i64 o])] ⟨rfl, trivial⟩ (by kernel_rfl)
     exact ovr hAp rfl (r_extract (hAp.get rfl) rfl) fun _ => Eq.refl _
    ·intro a w hT
     have hAp := hT.ag az [(15, .tuple #[.agg #[.int .i64 j, .string (Bs k), .string (Bs l), Sl.v ak, Sl.v al], .int .i64 i, .int .i64 o])] ⟨rfl, trivial⟩ (by kernel_rfl)
     exact ovr hAp rfl (r_extract (hAp.get rfl) rfl) fun _ => Eq.refl _
    ·intro bj cI aO cJ bk
     have cK := cJ [(1, Sl.v f), (6, .pointer (some (⟨m, 0, none⟩ : Addr))), (15, .tuple #[.agg #[.int .i64 j, .string (Bs k), .string (Bs l), Sl.v ak, Sl.v al], .int .i64 i, .int .i64 o])] ⟨rfl, rfl, rfl, trivial⟩ (by kernel_rfl)
     have cL : bj.tmps.getD 7 undef = .int .i64 i := bk 10 rfl 7 rfl
     have cM := cK.add cL
     have cN : bj.tmps.getD 8 undef = .int .i64 o := bk 11 rfl 8 rfl
     have aP := cM.add cN
     have cO := cD.ext aO
     have cP := cC.ext aO
     have cQ : Chg [] ai cI := aO
     refine joinF aP (by kernel_rfl) ⟨fun _ _ _ _ h => h, fun _ _ _ _ h => h, trivial⟩ ⟨?_, ?_, trivial⟩ ?_
     ·intro a w hT
      have hAp := hT.ag aP [(15, .tuple #[.agg #[.int .i64 j, .string (Bs k), .string (Bs l), Sl.v ak, Sl.v al], .int .i64 i, .int .i64 o])] ⟨rfl, trivial⟩ (by kernel_rfl)
      exact ovr hAp rfl (r_extract (hAp.get rfl) rfl) fun _ => Eq.refl _
     ·intro a w hT
      have hAp := hT.ag aP [(15, .tuple #[.agg #[.int .i64 j, .string (Bs k), .string (Bs l), Sl.v ak, Sl.v al], .int .i64 i, .int .i64 o])] ⟨rfl, trivial⟩ (by kernel_rfl)
      exact ovr hAp rfl (r_extract (hAp.get rfl) rfl) fun _ => Eq.refl _
     ·intro dJ aj aQ cR dK
      have cS := cR [(1, Sl.v f), (6, .pointer (some (⟨m, 0, none⟩ : Addr))), (7, .int .i64 i), (8, .int .i64 o)] ⟨rfl, rfl, rfl, rfl, trivial⟩ (by kernel_rfl)
      have dL := cO.ext aQ
      have aD := cP.ext aQ
      have bl := cQ.more aQ
      refine PR_end (by kernel_rfl) ?_
      have bm := cS.keep [(1, Sl.v f), (6, .pointer (some (⟨m, 0, none⟩ : Addr))), (7, .int .i64 i), (8, .int .i64 o)] ⟨rfl, rfl, rfl, rfl, trivial⟩
      refine then_normal (wp_seq (wp_seq (wp_region_lit ?_)))
      refine sqv bm rfl (r_move (bm.get rfl)) fun _ bn => ?_
      refine sqv bn rfl (r_neq (bn.get rfl) rfl) fun _ cT => ?_
      refine sq_end ?_
      have aA := cT.keep [(1, Sl.v f), (6, .pointer (some (⟨m, 0, none⟩ : Addr))), (7, .int .i64 i), (24, .bool (decide (o ≠ 0)))] ⟨rfl, rfl, rfl, rfl, trivial⟩
      refine then_normal ?_
      refine wp_cond_split (aA.get rfl) (fun hc => ?_) (fun hc => ?_)
      ·have cU := bi.1 (of_decide_eq_true hc)
       clear hc
       refine wp_seq (wp_region_lit ?_)
       refine sqv aA rfl (r_loadN (cs := [.int .i64 j, .string (Bs k), .string (Bs l), Sl.v b, Sl.v d]) Try.underlying29 rfl ti_29 (aA.get rfl) (aD.part 0 _ rfl)) fun _ cX => ?_
       refine sqv cX rfl (r_build (vs := #[]) (cells := #[.int .i64 0, .string (Bs ([] : Str)), .string (Bs ([] : Str)), Sl.v Sl.nil, Sl.v Sl.nil]) (map_arr2 ml2_nil) ti_29 Try.underlying29 pl_29 (by kernel_rfl)) fun _ aR => ?_
       have cY := cU aj    bl
       refine sq (opk_call aR rfl (r_call (args := #[.agg #[.int .i64 j, .string (Bs k), .string (Bs l), Sl.v b, Sl.v d], .agg #[.int .i64 0, .string (Bs ([] : Str)), .string (Bs ([] : Str)), Sl.v Sl.nil, Sl.v Sl.nil]]) Try.func40 (by decide) rfl (map_arr (ml_cons (aR.get rfl) (ml_cons (aR.get rfl) ml_nil))) rfl) cY fun dM dN aq bo _ cZ dO c0 => ?_)
       obtain ⟨q, rfl, c1⟩ := c0
       have c2 := aD.kept cZ (.head _)
       refine sqv bo rfl (r_move (bo.get rfl)) fun _ bp => ?_
       refine sq (opk_gval bp rfl rfl (g := true) (e := q) rfl (fun hg => r_move (bp.get rfl)) fun dP bq _ => ?_)
       refine sq (opk_gval bq rfl rfl (g := true) (e := q) rfl (fun hg => r_move (bq.get rfl)) fun dQ br _ => ?_)
       refine sq (opk_gval br rfl rfl (g := true) (e := q) rfl (fun hg => r_len (cv_get (br.get rfl) hg) Try.underlying46) fun dR aS _ => ?_)
       refine sq (opk_gval aS rfl rfl (g := true) (e := q) rfl (fun hg => r_lss (cv_get (aS.get rfl) hg) (cv_get (aS.get rfl) hg)) fun dS aT _ => ?_)
       refine sqv aT rfl (r_pick_and (g := (true && (q == true))) (aT.get rfl) (aT.get rfl) (fun he => g_mkt rfl he)) fun _ bs => ?_
       refine sqv bs rfl (r_move (bs.get rfl)) fun _ c3 => ?_
       obtain ⟨ar, c4, c5⟩ := c1
       refine sq (opk_gcall c3 rfl rfl (g := true) (e := (q && (decide (i < (f.n : Int))))) rfl (fun hg => r_call (args := #[]) Try.func37 (by decide) rfl (map_arr ml_nil) rfl) (fun hg => c4 ⟨(b_and_t (g_t hg)).1, (of_decide_eq_true (b_and_t (g_t hg)).2)⟩) fun dT au aU _ aV => ?_)
       have dU := c2.ext aV
       have dV : Chg [] aq au := aV
       have c6 := c5 au aV
       refine sqv aU rfl (r_pick_and (g := (true && ((q && (decide (i < (f.n : Int)))) == true))) (aU.get rfl) (aU.get rfl) (fun he => g_mkt rfl he)) fun _ bt => ?_
       refine sqv bt rfl (r_assign (bt.get rfl)) fun _ c7 => ?_
       refine sq_end ?_
       have bu := c7.keep [(4, .bool ((q && (decide (i < (f.n : Int)))) && ar))] ⟨rfl, trivial⟩
       refine then_normal ?_
       refine wp_ret ?_
       refine then_ret ?_
       exact res_all (vs := [.bool ((q && (decide (i < (f.n : Int)))) && ar)]) rfl bu ⟨res_of_tmp bu rfl, trivial⟩ c6
      ·have c8 := bi.2 (of_decide_eq_false hc)
       clear hc
       refine wp_skip ?_
       refine then_normal (wp_seq (wp_region_lit ?_))
       refine sqv aA rfl (r_loadN (cs := [.int .i64 j, .string (Bs k), .string (Bs l), Sl.v b, Sl.v d]) Try.underlying29 rfl ti_29 (aA.get rfl) (aD.part 0 _ rfl)) fun _ bv => ?_
       have c9 := c8 aj    bl
       refine sq (opk_call bv rfl (r_call (args := #[.agg #[.int .i64 j, .string (Bs k), .string (Bs l), Sl.v b, Sl.v d]]) Try.func41 (by decide) rfl (map_arr (ml_cons (bv.get rfl) ml_nil)) rfl) c9 fun dX dY av bx _ da dZ db => ?_)
       obtain ⟨r, rfl, dc⟩ := db
       have dd := aD.kept da (.head _)
       refine sqv bx rfl (r_move (bx.get rfl)) fun _ bz => ?_
       refine sq (opk_gval bz rfl rfl (g := true) (e := r) rfl (fun hg => r_move (bz.get rfl)) fun d0 bA _ => ?_)
       refine sq (opk_gval bA rfl rfl (g := true) (e := r) rfl (fun hg => r_move (bA.get rfl)) fun d1 bB _ => ?_)
       refine sq (opk_gval bB rfl rfl (g := true) (e := r) rfl (fun hg => r_len (cv_get (bB.get rfl) hg) Try.underlying46) fun d2 aX _ => ?_)
       refine sq (opk_gval aX rfl rfl (g := true) (e := r) rfl (fun hg => r_eql (cv_get (aX.get rfl) hg) (cv_get (aX.get rfl) hg)) fun d3 aY _ => ?_)
       refine sqv aY rfl (r_pick_and (g := (true && (r == true))) (aY.get rfl) (aY.get rfl) (fun he => g_mkt rfl he)) fun _ bC => ?_
       refine sqv bC rfl (r_move (bC.get rfl)) fun _ df => ?_
       obtain ⟨ax, dg, dh⟩ := dc
       refine sq (opk_gcall df rfl rfl (g := true) (e := (r && (decide (i = (f.n : Int))))) rfl (fun hg => r_call (args := #[]) Try.func37 (by decide) rfl (map_arr ml_nil) rfl) (fun hg => dg ⟨(b_and_t (g_t hg)).1, (of_decide_eq_true (b_and_t (g_t hg)).2)⟩) fun d4 ay aZ _ hE202 => ?_)
       have d5 := dd.ext hE202
       have d6 : Chg [] av ay := hE202
       have di := dh ay hE202
       refine sqv aZ rfl (r_pick_and (g := (true && ((r && (decide (i = (f.n : Int)))) == true))) (aZ.get rfl) (aZ.get rfl) (fun he => g_mkt rfl he)) fun _ bD => ?_
       refine sqv bD rfl (r_assign (bD.get rfl)) fun _ dj => ?_
       refine sq_end ?_
       have bF := dj.keep [(4, .bool ((r && (decide (i = (f.n : Int)))) && ax))] ⟨rfl, trivial⟩
       refine then_normal ?_
       refine wp_ret ?_
       exact res_all (vs := [.bool ((r && (decide (i = (f.n : Int)))) && ax)]) rfl bF ⟨res_of_tmp bF rfl, trivial⟩ di
end Go.Proofs.Ytghmgfkdnolcdaa
