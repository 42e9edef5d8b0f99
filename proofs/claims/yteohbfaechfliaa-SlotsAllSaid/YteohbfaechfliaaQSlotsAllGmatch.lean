/-
  PRINTED BY PROGRAM: for each function its condition (vc), and that this suffices (ok).
-/
import Derived.Test.YteohbfaechfliaaQSlotsAllGT
namespace Go.Proofs.Yteohbfaechfliaa
open Go.RowKit
set_option linter.unusedVariables false
set_option maxHeartbeats 1000000
set_option maxRecDepth 10000
def match_Check.vc (aa : Int) (ab : Str) (ad : Str) (af : Sl) (ah : Sl) (ai : Int) (aj : Str) (ak : Str) (al : Sl) (am : Sl) (k : Sl) (R : Value → World → Prop) (w : World) : Prop :=
∀ (aF : World) (ao : Nat) (aq : Nat), New w ao aF → New w aq aF → ao ≠ aq → Chg [] w aF →
CallK Try.prog 60 #[.agg #[.int .i64 aa, .string (Bs ab), .string (Bs ad), Sl.v af, Sl.v ah]] aF [ao, aq] (fun v a1 => ∃ (u : Bool), v = .bool u ∧
∃ (z : Bool), (((u = true)) → Calls Try.prog 60 #[.agg #[.int .i64 ai, .string (Bs aj), .string (Bs ak), Sl.v al, Sl.v am]] a1 (Ret fun v w' => Ext a1 w' ∧ v = .bool z)) ∧
(∀ ax : World, Ext a1 ax →
∃ bf : Addr, (((((u = true) ∧ (z = true)) ∧ (¬ ((k.n : Int) = 0)))) → ((0 : Int) ≤ 0 ∧ 0 < (k.n : Int)) ∧  k.a = some bf) ∧
∃ (a2 : Int) (a3 : Int), (((((u = true) ∧ (z = true)) ∧ (¬ ((k.n : Int) = 0)))) → Cells ax (bf.add (0 * 2)) [.int .i64 a2, .int .i64 a3]) ∧
(((((u = false) ∨ (z = false)) ∨ ((k.n : Int) = 0)) ∨ (¬ (a2 = 0 ∧ a3 = 0))) →
R (.bool false) ax) ∧
(((((u = true) ∧ (z = true)) ∧ (¬ ((k.n : Int) = 0))) ∧ (¬ (¬ (a2 = 0 ∧ a3 = 0)))) →
∀ (ay : World), Chg [] ax ay →
∃ aB : Sl → World → Prop, (∀ d : Sl, ∀ w' w'' : World, Ext w' w'' → aB d w' → aB d w'') ∧
(∀ w' : World, Ext ay w' → Calls Try.prog 37 #[.agg #[.int .i64 aa, .string (Bs ab), .string (Bs ad), Sl.v af, Sl.v ah]] w' (Ret fun v w'' => Ext w' w'' ∧ ∃ d : Sl, v = Sl.v d ∧ aB d w'')) ∧
∃ aC : Sl → World → Prop, (∀ i : Sl, ∀ w' w'' : World, Ext w' w'' → aC i w' → aC i w'') ∧
(∀ w' : World, Ext ay w' → Calls Try.prog 37 #[.agg #[.int .i64 ai, .string (Bs aj), .string (Bs ak), Sl.v al, Sl.v am]] w' (Ret fun v w'' => Ext w' w'' ∧ ∃ i : Sl, v = Sl.v i ∧ aC i w'')) ∧
∀ (aD : World) (d : Sl) (i : Sl), Ext ay aD → aB d aD → aC i aD → 
RunK Try.prog (Instr.makeMap 107 none) aD [] (fun v bg => ∃ (y : Option Nat), v = .map y ∧
∃ (a4 : Int → Int → World → Prop) (a8 : Int → Int → World → Nat),
a4 (-1) 0 bg ∧
(∀ (f : Int) (x : Int) (ap : World), a4 f x ap →
((x < (k.n : Int)) →
((0 : Int) ≤ x ∧ x < (k.n : Int)) ∧ ∃ bh : Addr, k.a = some bh ∧
∃ (b : Int) (c : Int), (Cells ap (bh.add (x.toNat * 2)) [.int .i64 b, .int .i64 c]) ∧
∀ (an : World) (r : Nat), New ap r an → Chg [] ap an →
∃ (j : Bool), ((((((¬ (b ≤ f)) ∧ (¬ ((d.n : Int) ≤ b))) ∧ (¬ (c < 0))) ∧ (¬ ((i.n : Int) ≤ c)))) → ∀ w' : World, Ext an w' → (Instr.lookup 107 (.map y) (.int .i64 c) false).run Try.prog w' = .ok (.bool j) w') ∧
∃ a5 : Addr, (((((((¬ (b ≤ f)) ∧ (¬ ((d.n : Int) ≤ b))) ∧ (¬ (c < 0))) ∧ (¬ ((i.n : Int) ≤ c))) ∧ (j = false))) → ((0 : Int) ≤ b ∧ b < (d.n : Int)) ∧ d.a = some a5) ∧
∃ (aG : Int) (aH : Int) (aI : Int) (aJ : Int) (aK : Int) (aL : Int) (aM : Str) (aN : Str) (aO : Sl) (aP : Sl), (((((((¬ (b ≤ f)) ∧ (¬ ((d.n : Int) ≤ b))) ∧ (¬ (c < 0))) ∧ (¬ ((i.n : Int) ≤ c))) ∧ (j = false))) → Cells an (a5.add (b.toNat * 10)) [.int .i64 aG, .int .i64 aH, .int .i64 aI, .int .i64 aJ, .int .i64 aK, .int .i64 aL, .string (Bs aM), .string (Bs aN), Sl.v aO, Sl.v aP]) ∧
∃ ar : Int → Str → World → Prop, (∀ m : Int, ∀ o : Str, ∀ w' w'' : World, Ext w' w'' → ar m o w' → ar m o w'') ∧
(((((((¬ (b ≤ f)) ∧ (¬ ((d.n : Int) ≤ b))) ∧ (¬ (c < 0))) ∧ (¬ ((i.n : Int) ≤ c))) ∧ (j = false))) → ∀ w' : World, Ext an w' → Calls Try.prog 61 #[.agg #[.int .i64 aG, .int .i64 aH, .int .i64 aI, .int .i64 aJ, .int .i64 aK, .int .i64 aL, .string (Bs aM), .string (Bs aN), Sl.v aO, Sl.v aP]] w' (Ret fun v w'' => Ext w' w'' ∧ ∃ m : Int, ∃ o : Str, v = .agg #[.int .i64 m, .string (Bs o)] ∧ ar m o w'')) ∧
∃ p_429 : Addr, (((((((¬ (b ≤ f)) ∧ (¬ ((d.n : Int) ≤ b))) ∧ (¬ (c < 0))) ∧ (¬ ((i.n : Int) ≤ c))) ∧ (j = false))) → ((0 : Int) ≤ c ∧ c < (i.n : Int)) ∧ i.a = some p_429) ∧
∃ (aQ : Int) (aR : Int) (aS : Int) (aT : Int) (aU : Int) (aV : Int) (aX : Str) (aY : Str) (aZ : Sl) (x_434_Node_Kids : Sl), (((((((¬ (b ≤ f)) ∧ (¬ ((d.n : Int) ≤ b))) ∧ (¬ (c < 0))) ∧ (¬ ((i.n : Int) ≤ c))) ∧ (j = false))) → Cells an (p_429.add (c.toNat * 10)) [.int .i64 aQ, .int .i64 aR, .int .i64 aS, .int .i64 aT, .int .i64 aU, .int .i64 aV, .string (Bs aX), .string (Bs aY), Sl.v aZ, Sl.v x_434_Node_Kids]) ∧
∃ au : Int → Str → World → Prop, (∀ p : Int, ∀ q : Str, ∀ w' w'' : World, Ext w' w'' → au p q w' → au p q w'') ∧
(((((((¬ (b ≤ f)) ∧ (¬ ((d.n : Int) ≤ b))) ∧ (¬ (c < 0))) ∧ (¬ ((i.n : Int) ≤ c))) ∧ (j = false))) → ∀ w' : World, Ext an w' → Calls Try.prog 61 #[.agg #[.int .i64 aQ, .int .i64 aR, .int .i64 aS, .int .i64 aT, .int .i64 aU, .int .i64 aV, .string (Bs aX), .string (Bs aY), Sl.v aZ, Sl.v x_434_Node_Kids]] w' (Ret fun v w'' => Ext w' w'' ∧ ∃ p : Int, ∃ q : Str, v = .agg #[.int .i64 p, .string (Bs q)] ∧ au p q w'')) ∧
∀ (az : World) (m : Int) (o : Str) (p : Int) (q : Str), Ext an az → (((((((¬ (b ≤ f)) ∧ (¬ ((d.n : Int) ≤ b))) ∧ (¬ (c < 0))) ∧ (¬ ((i.n : Int) ≤ c))) ∧ (j = false))) → ar m o az) → (((((((¬ (b ≤ f)) ∧ (¬ ((d.n : Int) ≤ b))) ∧ (¬ (c < 0))) ∧ (¬ ((i.n : Int) ≤ c))) ∧ (j = false))) → au p q az) → 
(((((((b ≤ f) ∨ ((d.n : Int) ≤ b)) ∨ (c < 0)) ∨ ((i.n : Int) ≤ c)) ∨ (j = true)) ∨ (¬ (m = p ∧ o = q))) →
R (.bool false) az) ∧
(((((((¬ (b ≤ f)) ∧ (¬ ((d.n : Int) ≤ b))) ∧ (¬ (c < 0))) ∧ (¬ ((i.n : Int) ≤ c))) ∧ (j = false)) ∧ (¬ (¬ (m = p ∧ o = q)))) →
RunU Try.prog (Instr.mapUpdate 107 (.map y) (.int .i64 c) (.bool true)) az [r] (fun a9 =>
(I64 (x + 1)) ∧
a4 b (x + 1) a9 ∧ a8 b (x + 1) a9 < a8 f x ap))) ∧
((¬ (x < (k.n : Int))) →
R (.bool true) ap))))))
theorem match_Check.ok (aa : Int) (ab : Str) (ad : Str) (af : Sl) (ah : Sl) (ai : Int) (aj : Str) (ak : Str) (al : Sl) (am : Sl) (k : Sl) {R : Value → World → Prop} {w : World} (bA : match_Check.vc aa ab ad af ah ai aj ak al am k R w) : Calls Try.prog 36 #[.agg #[.int .i64 aa, .string (Bs ab), .string (Bs ad), Sl.v af, Sl.v ah], .agg #[.int .i64 ai, .string (Bs aj), .string (Bs ak), Sl.v al, Sl.v am], Sl.v k] w (Ret R) := by
 refine enter [.agg #[.int .i64 aa, .string (Bs ab), .string (Bs ad), Sl.v af, Sl.v ah], .agg #[.int .i64 ai, .string (Bs aj), .string (Bs ak), Sl.v al, Sl.v am], Sl.v k] Try.func36 rfl Try.ntmps36 rfl ?_
 intro a0 bB
 unfold match_Check.vc at bA
 refine wp_seq (wp_region_lit ?_)
 refine sq (opk_new (fun B => .pointer (some ⟨B, 0, none⟩)) bB rfl (r_box (cs := [.int .i64 aa, .string (Bs ab), .string (Bs ad), Sl.v af, Sl.v ah]) (bB.get rfl) rfl) fun a6 w5 ao cy cz bD bF _ => ?_)
 have cA : New w ao w5 := cz
 have bG : Chg [] w w5 := cy
 refine sq (opk_new (fun B => .pointer (some ⟨B, 0, none⟩)) bF rfl (r_box (cs := [.int .i64 ai, .string (Bs aj), .string (Bs ak), Sl.v al, Sl.v am]) (bF.get rfl) rfl) fun fD aF aq bi bH cB cC _ => ?_)
 have cD : ao ≠ aq := Nat.ne_of_lt (Nat.lt_of_lt_of_le bD.lt bH.ge)
 have cF := New.of bG bH
 have bI := bD.ext bi
 have cG := bG.more bi
 have cH := cA.up bi.size
 refine sqv cC rfl (r_assign rfl) fun _ cI => sq_end ?_
 have bJ := cI.kp [(2, Sl.v k), (3, pB ao 0), (4, pB aq 0)] rfl
 refine then_normal (wp_seq (wp_seq (wp_region_lit ?_)))
 refine sqv bJ rfl (r_loadN (cs := [.int .i64 aa, .string (Bs ab), .string (Bs ad), Sl.v af, Sl.v ah]) Try.underlying26 rfl ti_26 (bJ.get rfl) (bI.part 0 _ rfl)) fun _ bK => ?_
 have cJ := bA aF ao aq cH cF cD cG
 refine sq (opk_call bK rfl (r_call (args := #[.agg #[.int .i64 aa, .string (Bs ab), .string (Bs ad), Sl.v af, Sl.v ah]]) Try.func60 (by decide) rfl (map_arr (ml_cons (bK.get rfl) ml_nil)) rfl) cJ fun fF fG a1 bL _ bM fH cK => ?_)
 obtain ⟨u, rfl, cL⟩ := cK
 have cM := bI.kept bM (.head _)
 have bN := cB.kept bM (.tail _ (.head _))
 refine sqv bL rfl (r_not (bL.get rfl)) fun _ bO => sqv bO rfl (r_move (bO.get rfl)) fun _ bP => ?_
 refine sq (opk_gval bP rfl rfl (g := true) (e := (!u)) rfl (fun hg => r_loadN (cs := [.int .i64 ai, .string (Bs aj), .string (Bs ak), Sl.v al, Sl.v am]) Try.underlying26 rfl ti_26 (bP.get rfl) (bN.part 0 _ rfl)) fun fI bQ _ => ?_)
 obtain ⟨z, cN, cO⟩ := cL
 refine sq (opk_gcall bQ rfl rfl (g := true) (e := (!u)) rfl (fun hg => r_call (args := #[.agg #[.int .i64 ai, .string (Bs aj), .string (Bs ak), Sl.v al, Sl.v am]]) Try.func60 (by decide) rfl (map_arr (ml_cons (cv_get (bQ.get rfl) hg) ml_nil)) rfl) (fun hg => cN (b_not_f (g_f hg))) fun fJ ax bR _ ba => ?_)
 have cP := cM.ext ba
 have cQ := bN.ext ba
 have fK : Chg [] a1 ax := ba
 have cR := cO ax ba
 refine sq (opk_gval bR rfl rfl (g := true) (e := (!u)) rfl (fun hg => r_not (cv_get (bR.get rfl) hg)) fun fL bj _ => ?_)
 refine sqv bj rfl (r_pick_or (g := (true && ((!u) == false))) (bj.get rfl) (bj.get rfl) (fun he => g_mkf rfl he)) fun _ bS => sqv bS rfl (r_move (bS.get rfl)) fun _ bT => ?_
 refine sq (opk_gval bT rfl rfl (g := true) (e := ((!u) || (!z))) rfl (fun hg => r_move (bT.get rfl)) fun fM bU _ => ?_)
 refine sq (opk_gval bU rfl rfl (g := true) (e := ((!u) || (!z))) rfl (fun hg => r_len (cv_get (bU.get rfl) hg) tU29) fun fN bV _ => ?_)
 refine sq (opk_gval bV rfl rfl (g := true) (e := ((!u) || (!z))) rfl (fun hg => r_eql (cv_get (bV.get rfl) hg) rfl) fun fO bk _ => ?_)
 refine sqv bk rfl (r_pick_or (g := (true && (((!u) || (!z)) == false))) (bk.get rfl) (bk.get rfl) (fun he => g_mkf rfl he)) fun _ bX => sqv bX rfl (r_move (bX.get rfl)) fun _ bY => ?_
 refine sq (opk_gval bY rfl rfl (g := true) (e := (((!u) || (!z)) || (decide ((k.n : Int) = 0)))) rfl (fun hg => r_move (bY.get rfl)) fun fP bZ _ => ?_)
 obtain ⟨bf, b0, cS⟩ := cR
 refine sq (opk_gval bZ rfl rfl (g := true) (e := (((!u) || (!z)) || (decide ((k.n : Int) = 0)))) rfl (fun hg => r_indexAddr (cv_get (bZ.get rfl) hg) rfl tU29 ti_40 (b0 ⟨⟨(b_not_f (b_or_f (b_or_f (g_f hg)).1).1), (b_not_f (b_or_f (b_or_f (g_f hg)).1).2)⟩, (of_decide_eq_false (b_or_f (g_f hg)).2)⟩).1 (b0 ⟨⟨(b_not_f (b_or_f (b_or_f (g_f hg)).1).1), (b_not_f (b_or_f (b_or_f (g_f hg)).1).2)⟩, (of_decide_eq_false (b_or_f (g_f hg)).2)⟩).2) fun fQ b1 _ => ?_)
 obtain ⟨a2, a3, cT, b2⟩ := cS
 refine sq (opk_gval b1 rfl rfl (g := true) (e := (((!u) || (!z)) || (decide ((k.n : Int) = 0)))) rfl (fun hg => r_loadN Try.underlying40 rfl ti_40 (cv_get (b1.get rfl) hg) (cT ⟨⟨(b_not_f (b_or_f (b_or_f (g_f hg)).1).1), (b_not_f (b_or_f (b_or_f (g_f hg)).1).2)⟩, (of_decide_eq_false (b_or_f (g_f hg)).2)⟩)) fun fR cU _ => ?_)
 refine sq (opk_gval cU rfl rfl (g := true) (e := (((!u) || (!z)) || (decide ((k.n : Int) = 0)))) rfl (fun hg => r_build (vs := #[]) (cells := #[.int .i64 0, .int .i64 0]) (map_arr2 ml2_nil) ti_40 Try.underlying40 pl_40 (by kernel_rfl)) fun fS bl _ => ?_)
 refine sq (opk_gval bl rfl rfl (g := true) (e := (((!u) || (!z)) || (decide ((k.n : Int) = 0)))) rfl (fun hg => r_aneqd (cv_get (bl.get rfl) hg) (cv_get (bl.get rfl) hg) (eq_40 _ _ _ _)) fun fT bm _ => ?_)
 refine sqv bm rfl (r_pick_or (g := (true && ((((!u) || (!z)) || (decide ((k.n : Int) = 0))) == false))) (bm.get rfl) (bm.get rfl) (fun he => g_mkf rfl he)) fun _ cX => sq_end ?_
 have av := cX.kp [(2, Sl.v k), (3, pB ao 0), (4, pB aq 0), (32, .bool ((((!u) || (!z)) || (decide ((k.n : Int) = 0))) || (decide (¬ (a2 = 0 ∧ a3 = 0)))))] rfl
 refine then_normal ?_
 refine wp_cond_split (av.get rfl) (fun hc => ?_) (fun hc => ?_)
 ·have cY := b2.1 ((b_or_t hc).imp (fun h => ((b_or_t h).imp (fun h => ((b_or_t h).imp (fun h => (b_not_t h)) (fun h => (b_not_t h)))) (fun h => (of_decide_eq_true h)))) (fun h => (of_decide_eq_true h)))
  clear hc
  refine wp_seq (wp_region_lit ?_)
  refine sqv av rfl (r_assign rfl) fun _ cZ => sq_end ?_
  have b3 := cZ.kp [(6, .bool false)] rfl
  refine then_normal ?_
  refine wp_ret ?_
  refine then_ret ?_
  exact res_all (vs := [.bool false]) rfl b3 ⟨res_of_tmp b3 rfl, trivial⟩ cY
 ·have c0 := b2.2 ⟨⟨⟨(b_not_f (b_or_f (b_or_f (b_or_f hc).1).1).1), (b_not_f (b_or_f (b_or_f (b_or_f hc).1).1).2)⟩, (of_decide_eq_false (b_or_f (b_or_f hc).1).2)⟩, (of_decide_eq_false (b_or_f hc).2)⟩
  clear hc
  refine wp_skip ?_
  refine then_normal (wp_seq ?_)
  refine draw' (by kernel_rfl) fun ay bn => ?_
  have b4 := cP.ext bn
  have b5 := cQ.ext bn
  have c1 : Chg [] ax ay := bn
  have c2 := c0 ay    c1
  obtain ⟨aB, b6, c3, c4⟩ := c2
  obtain ⟨aC, b7, c5, c6⟩ := c4
  refine par (D := [[], [0], [], [0, 1, 2], [0, 1, 2, 3], [0, 1, 2, 3, 4]]) (S := [0, 1, 2, 3, 4, 5]) (F := []) (V := VL [(0, fun v _ => v = .agg #[.int .i64 aa, .string (Bs ab), .string (Bs ad), Sl.v af, Sl.v ah]), (1, fun v w' => ∃ d : Sl, aB d w' ∧ v = Sl.v d), (2, fun v _ => v = .agg #[.int .i64 ai, .string (Bs aj), .string (Bs ak), Sl.v al, Sl.v am]), (3, fun v w' => ∃ i : Sl, aC i w' ∧ v = Sl.v i), (4, fun v w' => ∃ d : Sl, aB d w' ∧ v = Sl.v d), (5, fun v w' => ∃ i : Sl, aC i w' ∧ v = Sl.v i)]) av (by kernel_rfl) ⟨fun _ _ _ _ h => by first | exact h | (change _ = _ at h; change _ = _; exact h), fun _ _ _ hE ⟨d, h0_, e⟩ => ⟨d, (b6 d _ _ hE h0_), e⟩, fun _ _ _ _ h => by first | exact h | (change _ = _ at h; change _ = _; exact h), fun _ _ _ hE ⟨i, h0_, e⟩ => ⟨i, (b7 i _ _ hE h0_), e⟩, fun _ _ _ hE ⟨d, h0_, e⟩ => ⟨d, (b6 d _ _ hE h0_), e⟩, fun _ _ _ hE ⟨i, h0_, e⟩ => ⟨i, (b7 i _ _ hE h0_), e⟩, trivial⟩ ⟨?_, ?_, ?_, ?_, ?_, ?_, trivial⟩ ?_
  ·intro a w hT
   have hAp := hT.ag av [(3, pB ao 0)] ⟨rfl, trivial⟩ (by kernel_rfl)
   exact ovr hAp rfl (r_loadN (cs := [.int .i64 aa, .string (Bs ab), .string (Bs ad), Sl.v af, Sl.v ah]) Try.underlying26 rfl ti_26 (hAp.get rfl) ((b4.ext hT.chg).part 0 _ rfl)) fun _ => Eq.refl _
  ·intro a w hT
   have hAp := hT.ag av [] trivial (by kernel_rfl)
   have hAp := hAp.add (t := 33) (v := .agg #[.int .i64 aa, .string (Bs ab), .string (Bs ad), Sl.v af, Sl.v ah]) (hT.vals 0 rfl 33 rfl)
   exact opk_callX hAp rfl (r_call (args := #[.agg #[.int .i64 aa, .string (Bs ab), .string (Bs ad), Sl.v af, Sl.v ah]]) Try.func37 (by decide) rfl (map_arr (ml_cons (hAp.get rfl) ml_nil)) rfl) (c3 w hT.chg) fun _ _ _ _ e ⟨hE, d, he, hV⟩ => ⟨_, e, hE, fun _ => ⟨d, hV, he⟩⟩
  ·intro a w hT
   have hAp := hT.ag av [(4, pB aq 0)] ⟨rfl, trivial⟩ (by kernel_rfl)
   exact ovr hAp rfl (r_loadN (cs := [.int .i64 ai, .string (Bs aj), .string (Bs ak), Sl.v al, Sl.v am]) Try.underlying26 rfl ti_26 (hAp.get rfl) ((b5.ext hT.chg).part 0 _ rfl)) fun _ => Eq.refl _
  ·intro a w hT
   have hAp := hT.ag av [] trivial (by kernel_rfl)
   have hAp := hAp.add (t := 35) (v := .agg #[.int .i64 ai, .string (Bs aj), .string (Bs ak), Sl.v al, Sl.v am]) (hT.vals 2 rfl 35 rfl)
   exact opk_callX hAp rfl (r_call (args := #[.agg #[.int .i64 ai, .string (Bs aj), .string (Bs ak), Sl.v al, Sl.v am]]) Try.func37 (by decide) rfl (map_arr (ml_cons (hAp.get rfl) ml_nil)) rfl) (c5 w hT.chg) fun _ _ _ _ e ⟨hE, i, he, hV⟩ => ⟨_, e, hE, fun _ => ⟨i, hV, he⟩⟩
  ·intro a w hT
   have hAp := hT.ag av [] trivial (by kernel_rfl)
   obtain ⟨d, c7, c8⟩ := hT.vals 1 rfl 34 rfl
   have hAp := hAp.add c8
   exact opk_val hAp rfl (r_assign (hAp.get rfl)) fun _ _ e => ⟨_, e, Chg.refl _ _, fun _ => ⟨d, c7, rfl⟩⟩
  ·intro a w hT
   have hAp := hT.ag av [] trivial (by kernel_rfl)
   obtain ⟨i, c9, da⟩ := hT.vals 3 rfl 36 rfl
   have hAp := hAp.add da
   exact opk_val hAp rfl (r_assign (hAp.get rfl)) fun _ _ e => ⟨_, e, Chg.refl _ _, fun _ => ⟨i, c9, rfl⟩⟩
  ·intro fU aD bb db b8
   have dc := db [(2, Sl.v k)] ⟨rfl, trivial⟩ (by kernel_rfl)
   obtain ⟨d, dd, df⟩ := b8 4 rfl 7 rfl
   have dg := dc.add df
   obtain ⟨i, dh, di⟩ := b8 5 rfl 8 rfl
   have dj := dg.add di
   have fV := b4.ext bb
   have fX := b5.ext bb
   have fY : Chg [] ay aD := bb
   have dk := c6 aD d i bb dd dh
   refine PR_end (by kernel_rfl) ?_
   have dl := dj.kp [(2, Sl.v k), (7, Sl.v d), (8, Sl.v i)] rfl
   refine then_normal (wp_seq (wp_region_lit ?_))
   refine sqv dl rfl (r_assign rfl) fun _ dm => sq_end ?_
   have dn := dm.kp [(2, Sl.v k), (7, Sl.v d), (8, Sl.v i), (9, .int .i64 (-1))] rfl
   refine then_normal (wp_seq (wp_region_lit ?_))
   refine sq (opk_run dn rfl (fun _ _ hr => r_makeMap hr) dk fun fZ f0 bg b9 _ f1 f2 dp => ?_)
   obtain ⟨y, rfl, dq⟩ := dp
   refine sqv b9 rfl (r_assign (b9.get rfl)) fun _ dr => sq_end ?_
   have ca := dr.kp [(2, Sl.v k), (7, Sl.v d), (8, Sl.v i), (9, .int .i64 (-1)), (10, .map y)] rfl
   refine then_normal (wp_seq (wp_seq (wp_region_lit ?_)))
   refine sqv ca rfl (r_move (ca.get rfl)) fun _ cb => sqv cb rfl (r_len (cb.get rfl) tU29) fun _ ds => sqv ds rfl (r_move rfl) fun _ dt => sq_end ?_
   have du := dt.kp [(7, Sl.v d), (8, Sl.v i), (9, .int .i64 (-1)), (10, .map y), (38, Sl.v k), (39, .int .i64 (k.n : Int)), (40, .int .i64 0)] rfl
   refine then_normal (wp_block ?_)
   obtain ⟨a4, a8, dv, dx⟩ := dq
   refine wp_loop_st (σ := Int × Int × World) (fun s a w => Ag 94 a [(7, Sl.v d), (8, Sl.v i), (9, .int .i64 s.1), (10, .map y), (38, Sl.v k), (39, .int .i64 (k.n : Int)), (40, .int .i64 s.2.1)] ∧ w = s.2.2 ∧ a4 s.1 s.2.1 s.2.2) (fun s => a8 s.1 s.2.1 s.2.2) ((-1), 0, bg) ⟨du.kp [(7, Sl.v d), (8, Sl.v i), (9, .int .i64 (-1)), (10, .map y), (38, Sl.v k), (39, .int .i64 (k.n : Int)), (40, .int .i64 0)] rfl, rfl, dv⟩ ?_
   rintro ⟨f, x, ap⟩ f3 w_ ⟨bo, hw_, dy⟩
   have hw_ : ap = w_ := hw_.symm
   subst hw_
   have cc := dx f x _ dy
   refine wp_seq (wp_region_lit ?_)
   refine sqv bo rfl (r_lss (bo.get rfl) (bo.get rfl)) fun _ dz => sq_end ?_
   have a7 := dz.kp [(7, Sl.v d), (8, Sl.v i), (9, .int .i64 f), (10, .map y), (38, Sl.v k), (39, .int .i64 (k.n : Int)), (40, .int .i64 x), (41, .bool (decide (x < (k.n : Int))))] rfl
   refine then_normal (wp_seq ?_)
   refine wp_cond_split (a7.get rfl) (fun hc => ?_) (fun hc => ?_)
   ·have dA := cc.1 (of_decide_eq_true hc)
    clear hc
    refine wp_skip ?_
    refine then_normal (wp_seq (wp_block (wp_seq (wp_region_lit ?_))))
    obtain ⟨dB, bh, dC, dD⟩ := dA
    refine sqv a7 rfl (r_indexAddr (a7.get rfl) (a7.get rfl) tU29 ti_40 dB dC) fun _ cd => ?_
    obtain ⟨b, c, dF, dG⟩ := dD
    refine sqv cd rfl (r_loadN Try.underlying40 rfl ti_40 (cd.get rfl) dF) fun _ dH => ?_
    refine sq (opk_new (fun B => .pointer (some ⟨B, 0, none⟩)) dH rfl (r_alloc (cs := [.int .i64 0, .int .i64 0]) ti_40 rfl) fun f4 cf r dI dJ cg bp _ => ?_)
    have ch : New ap r cf := dJ
    have dK : Chg [] ap cf := dI
    refine sq (opk_store bp cg (r_store (vs := [.int .i64 b, .int .i64 c]) (bp.get rfl) (bp.get rfl) rfl ti_40 cg rfl (ones_all _ rfl)) fun f5 dL ci dM dN => ?_)
    have dO : Box dL r 40 [.int .i64 b, .int .i64 c] := dM
    have dP := dK.storeNew ch ci
    have dQ := ch.up ci.size
    refine sq_end ?_
    have l := dN.kp [(7, Sl.v d), (8, Sl.v i), (9, .int .i64 f), (10, .map y), (12, pB r 0), (38, Sl.v k), (39, .int .i64 (k.n : Int)), (40, .int .i64 x)] rfl
    refine then_normal (wp_seq (wp_seq ?_))
    refine draw' (by kernel_rfl) fun an bq => ?_
    have aA := dO.ext bq
    have dR := dP.more bq
    have dS := dQ.up bq.size
    have dT := dG an r dS  dR
    obtain ⟨j, dU, dV⟩ := dT
    obtain ⟨a5, cj, dX⟩ := dV
    obtain ⟨aG, aH, aI, aJ, aK, aL, aM, aN, aO, aP, dY, dZ⟩ := dX
    obtain ⟨ar, br, d0, d1⟩ := dZ
    obtain ⟨p_429, ck, d2⟩ := d1
    obtain ⟨aQ, aR, aS, aT, aU, aV, aX, aY, aZ, x_434_Node_Kids, d3, d4⟩ := d2
    obtain ⟨au, bs, d5, d6⟩ := d4
    refine par (D := [[], [0], [], [0, 1, 2], [0, 1, 2, 3], [0, 1, 2, 3, 4], [0, 1, 2, 3, 4, 5], [0, 1, 2, 3, 4], [0, 1, 2, 3, 4, 7], [0, 1, 2, 3, 4, 5, 6, 7, 8], [0, 1, 2, 3, 4, 5, 6, 7, 8, 9], [0, 1, 2, 3, 4, 5, 6, 7, 8, 9, 10], [0, 1, 2, 3, 4, 5, 6, 7, 8, 9, 10, 11], [0, 1, 2, 3, 4, 5, 6, 7, 8, 9, 10, 11, 12], [0, 1, 2, 3, 4, 5, 6, 7, 8, 9, 10, 11, 12, 13], [0, 1, 2, 3, 4, 5, 6, 7, 8, 9, 10, 11, 12, 13, 14], [0, 1, 2, 3, 4, 5, 6, 7, 8, 9, 10, 11, 12, 13, 14, 15], [0, 1, 2, 3, 4, 5, 6, 7, 8, 9, 10, 11, 12, 13, 14, 15, 16], [0, 1, 2, 3, 4, 5, 6, 7, 8, 9, 10, 11, 12, 13, 14, 15, 16, 17], [0, 1, 2, 3, 4, 5, 6, 7, 8, 9, 10, 11, 12, 13, 14, 15, 16], [0, 1, 2, 3, 4, 5, 6, 7, 8, 9, 10, 11, 12, 13, 14, 15, 16, 19], [0, 1, 2, 3, 4, 5, 6, 7, 8, 9, 10, 11, 12, 13, 14, 15, 16, 17, 18, 19, 20], [0, 1, 2, 3, 4, 5, 6, 7, 8, 9, 10, 11, 12, 13, 14, 15, 16, 17, 18, 19, 20, 21], [0, 1, 2, 3, 4, 5, 6, 7, 8, 9, 10, 11, 12, 13, 14, 15, 16, 17, 18, 19, 20, 21, 22], [0, 1, 2, 3, 4, 5, 6, 7, 8, 9, 10, 11, 12, 13, 14, 15, 16, 17, 18, 19, 20, 21, 22, 23], [0, 1, 2, 3, 4, 5, 6, 7, 8, 9, 10, 11, 12, 13, 14, 15, 16, 17, 18, 19, 20, 21, 22, 23], [0, 1, 2, 3, 4, 5, 6, 7, 8, 9, 10, 11, 12, 13, 14, 15, 16, 17, 18, 19, 20, 21, 22, 23, 25], [0, 1, 2, 3, 4, 5, 6, 7, 8, 9, 10, 11, 12, 13, 14, 15, 16, 17, 18, 19, 20, 21, 22, 23, 24, 25, 26], [0, 1, 2, 3, 4, 5, 6, 7, 8, 9, 10, 11, 12, 13, 14, 15, 16, 17, 18, 19, 20, 21, 22, 23, 24, 25, 26, 27], [0, 1, 2, 3, 4, 5, 6, 7, 8, 9, 10, 11, 12, 13, 14, 15, 16, 17, 18, 19, 20, 21, 22, 23, 24, 25, 26, 27, 28], [0, 1, 2, 3, 4, 5, 6, 7, 8, 9, 10, 11, 12, 13, 14, 15, 16, 17, 18, 19, 20, 21, 22, 23, 24, 25, 26, 27, 28, 29], [0, 1, 2, 3, 4, 5, 6, 7, 8, 9, 10, 11, 12, 13, 14, 15, 16, 17, 18, 19, 20, 21, 22, 23, 24, 25, 26, 27, 28, 29], [0, 1, 2, 3, 4, 5, 6, 7, 8, 9, 10, 11, 12, 13, 14, 15, 16, 17, 18, 19, 20, 21, 22, 23, 24, 25, 26, 27, 28, 29, 31], [0, 1, 2, 3, 4, 5, 6, 7, 8, 9, 10, 11, 12, 13, 14, 15, 16, 17, 18, 19, 20, 21, 22, 23, 24, 25, 26, 27, 28, 29, 30, 31, 32], [0, 1, 2, 3, 4, 5, 6, 7, 8, 9, 10, 11, 12, 13, 14, 15, 16, 17, 18, 19, 20, 21, 22, 23, 24, 25, 26, 27, 28, 29, 30, 31, 32, 33], [0, 1, 2, 3, 4, 5, 6, 7, 8, 9, 10, 11, 12, 13, 14, 15, 16, 17, 18, 19, 20, 21, 22, 23, 24, 25, 26, 27, 28, 29, 30, 31, 32, 33, 34], [0, 1, 2, 3, 4, 5, 6, 7, 8, 9, 10, 11, 12, 13, 14, 15, 16, 17, 18, 19, 20, 21, 22, 23, 24, 25, 26, 27, 28, 29], [0, 1, 2, 3, 4, 5, 6, 7, 8, 9, 10, 11, 12, 13, 14, 15, 16, 17, 18, 19, 20, 21, 22, 23, 24, 25, 26, 27, 28, 29], [0, 1, 2, 3, 4, 5, 6, 7, 8, 9, 10, 11, 12, 13, 14, 15, 16, 17, 18, 19, 20, 21, 22, 23, 24, 25, 26, 27, 28, 29, 37], [0, 1, 2, 3, 4, 5, 6, 7, 8, 9, 10, 11, 12, 13, 14, 15, 16, 17, 18, 19, 20, 21, 22, 23, 24, 25, 26, 27, 28, 29, 36, 37, 38], [0, 1, 2, 3, 4, 5, 6, 7, 8, 9, 10, 11, 12, 13, 14, 15, 16, 17, 18, 19, 20, 21, 22, 23, 24, 25, 26, 27, 28, 29, 36, 37, 38, 39], [0, 1, 2, 3, 4, 5, 6, 7, 8, 9, 10, 11, 12, 13, 14, 15, 16, 17, 18, 19, 20, 21, 22, 23, 24, 25, 26, 27, 28, 29, 30, 31, 32, 33, 34, 35, 36, 37, 38, 39, 40], [0, 1, 2, 3, 4, 5, 6, 7, 8, 9, 10, 11, 12, 13, 14, 15, 16, 17, 18, 19, 20, 21, 22, 23, 24, 25, 26, 27, 28, 29, 30, 31, 32, 33, 34, 35, 36, 37, 38, 39, 40, 41], [0, 1, 2, 3, 4, 5, 6, 7, 8, 9, 10, 11, 12, 13, 14, 15, 16, 17, 18, 19, 20, 21, 22, 23, 24, 25, 26, 27, 28, 29, 30, 31, 32, 33, 34, 35, 36, 37, 38, 39, 40, 41, 42]]) (S := [0, 1, 2, 3, 4, 5, 6, 7, 8, 9, 10, 11, 12, 13, 14, 15, 16, 17, 18, 19, 20, 21, 22, 23, 24, 25, 26, 27, 28, 29, 30, 31, 32, 33, 34, 35, 36, 37, 38, 39, 40, 41, 42, 43]) (F := []) (V := VL [(0, fun v _ => v = pB r 0), (1, fun v _ => v = .int .i64 b), (2, fun v _ => v = .int .i64 f), (3, fun v _ => v = .bool (decide (b ≤ f))), (4, fun v _ => v = .bool (decide (b ≤ f))), (5, fun v _ => v = cV (true && ((decide (b ≤ f)) == false)) (pB r 0)), (6, fun v _ => v = cV (true && ((decide (b ≤ f)) == false)) (.int .i64 b)), (7, fun v _ => v = cV (true && ((decide (b ≤ f)) == false)) (Sl.v d)), (8, fun v _ => v = cV (true && ((decide (b ≤ f)) == false)) (.int .i64 (d.n : Int))), (9, fun v _ => v = cV (true && ((decide (b ≤ f)) == false)) (.bool (decide ((d.n : Int) ≤ b)))), (10, fun v _ => v = .bool ((decide (b ≤ f)) || (decide ((d.n : Int) ≤ b)))), (11, fun v _ => v = .bool ((decide (b ≤ f)) || (decide ((d.n : Int) ≤ b)))), (12, fun v _ => v = cV (true && (((decide (b ≤ f)) || (decide ((d.n : Int) ≤ b))) == false)) (pB r 1)), (13, fun v _ => v = cV (true && (((decide (b ≤ f)) || (decide ((d.n : Int) ≤ b))) == false)) (.int .i64 c)), (14, fun v _ => v = cV (true && (((decide (b ≤ f)) || (decide ((d.n : Int) ≤ b))) == false)) (.bool (decide (c < 0)))), (15, fun v _ => v = .bool (((decide (b ≤ f)) || (decide ((d.n : Int) ≤ b))) || (decide (c < 0)))), (16, fun v _ => v = .bool (((decide (b ≤ f)) || (decide ((d.n : Int) ≤ b))) || (decide (c < 0)))), (17, fun v _ => v = cV (true && ((((decide (b ≤ f)) || (decide ((d.n : Int) ≤ b))) || (decide (c < 0))) == false)) (pB r 1)), (18, fun v _ => v = cV (true && ((((decide (b ≤ f)) || (decide ((d.n : Int) ≤ b))) || (decide (c < 0))) == false)) (.int .i64 c)), (19, fun v _ => v = cV (true && ((((decide (b ≤ f)) || (decide ((d.n : Int) ≤ b))) || (decide (c < 0))) == false)) (Sl.v i)), (20, fun v _ => v = cV (true && ((((decide (b ≤ f)) || (decide ((d.n : Int) ≤ b))) || (decide (c < 0))) == false)) (.int .i64 (i.n : Int))), (21, fun v _ => v = cV (true && ((((decide (b ≤ f)) || (decide ((d.n : Int) ≤ b))) || (decide (c < 0))) == false)) (.bool (decide ((i.n : Int) ≤ c)))), (22, fun v _ => v = .bool ((((decide (b ≤ f)) || (decide ((d.n : Int) ≤ b))) || (decide (c < 0))) || (decide ((i.n : Int) ≤ c)))), (23, fun v _ => v = .bool ((((decide (b ≤ f)) || (decide ((d.n : Int) ≤ b))) || (decide (c < 0))) || (decide ((i.n : Int) ≤ c)))), (24, fun v _ => v = cV (true && (((((decide (b ≤ f)) || (decide ((d.n : Int) ≤ b))) || (decide (c < 0))) || (decide ((i.n : Int) ≤ c))) == false)) (.map y)), (25, fun v _ => v = cV (true && (((((decide (b ≤ f)) || (decide ((d.n : Int) ≤ b))) || (decide (c < 0))) || (decide ((i.n : Int) ≤ c))) == false)) (pB r 1)), (26, fun v _ => v = cV (true && (((((decide (b ≤ f)) || (decide ((d.n : Int) ≤ b))) || (decide (c < 0))) || (decide ((i.n : Int) ≤ c))) == false)) (.int .i64 c)), (27, fun v _ => v = cV (true && (((((decide (b ≤ f)) || (decide ((d.n : Int) ≤ b))) || (decide (c < 0))) || (decide ((i.n : Int) ≤ c))) == false)) (.bool j)), (28, fun v _ => v = .bool (((((decide (b ≤ f)) || (decide ((d.n : Int) ≤ b))) || (decide (c < 0))) || (decide ((i.n : Int) ≤ c))) || j)), (29, fun v _ => v = .bool (((((decide (b ≤ f)) || (decide ((d.n : Int) ≤ b))) || (decide (c < 0))) || (decide ((i.n : Int) ≤ c))) || j)), (30, fun v _ => v = cV (true && ((((((decide (b ≤ f)) || (decide ((d.n : Int) ≤ b))) || (decide (c < 0))) || (decide ((i.n : Int) ≤ c))) || j) == false)) (Sl.v d)), (31, fun v _ => v = cV (true && ((((((decide (b ≤ f)) || (decide ((d.n : Int) ≤ b))) || (decide (c < 0))) || (decide ((i.n : Int) ≤ c))) || j) == false)) (pB r 0)), (32, fun v _ => v = cV (true && ((((((decide (b ≤ f)) || (decide ((d.n : Int) ≤ b))) || (decide (c < 0))) || (decide ((i.n : Int) ≤ c))) || j) == false)) (.int .i64 b)), (33, fun v _ => v = cV (true && ((((((decide (b ≤ f)) || (decide ((d.n : Int) ≤ b))) || (decide (c < 0))) || (decide ((i.n : Int) ≤ c))) || j) == false)) (.pointer (some (a5.add (b.toNat * 10))))), (34, fun v _ => v = cV (true && ((((((decide (b ≤ f)) || (decide ((d.n : Int) ≤ b))) || (decide (c < 0))) || (decide ((i.n : Int) ≤ c))) || j) == false)) (.agg #[.int .i64 aG, .int .i64 aH, .int .i64 aI, .int .i64 aJ, .int .i64 aK, .int .i64 aL, .string (Bs aM), .string (Bs aN), Sl.v aO, Sl.v aP])), (35, fun v w' => ∃ m : Int, ∃ o : Str, (((((((¬ (b ≤ f)) ∧ (¬ ((d.n : Int) ≤ b))) ∧ (¬ (c < 0))) ∧ (¬ ((i.n : Int) ≤ c))) ∧ (j = false))) → ar m o w') ∧ v = cV (true && ((((((decide (b ≤ f)) || (decide ((d.n : Int) ≤ b))) || (decide (c < 0))) || (decide ((i.n : Int) ≤ c))) || j) == false)) (.agg #[.int .i64 m, .string (Bs o)])), (36, fun v _ => v = cV (true && ((((((decide (b ≤ f)) || (decide ((d.n : Int) ≤ b))) || (decide (c < 0))) || (decide ((i.n : Int) ≤ c))) || j) == false)) (Sl.v i)), (37, fun v _ => v = cV (true && ((((((decide (b ≤ f)) || (decide ((d.n : Int) ≤ b))) || (decide (c < 0))) || (decide ((i.n : Int) ≤ c))) || j) == false)) (pB r 1)), (38, fun v _ => v = cV (true && ((((((decide (b ≤ f)) || (decide ((d.n : Int) ≤ b))) || (decide (c < 0))) || (decide ((i.n : Int) ≤ c))) || j) == false)) (.int .i64 c)), (39, fun v _ => v = cV (true && ((((((decide (b ≤ f)) || (decide ((d.n : Int) ≤ b))) || (decide (c < 0))) || (decide ((i.n : Int) ≤ c))) || j) == false)) (.pointer (some (p_429.add (c.toNat * 10))))), (40, fun v _ => v = cV (true && ((((((decide (b ≤ f)) || (decide ((d.n : Int) ≤ b))) || (decide (c < 0))) || (decide ((i.n : Int) ≤ c))) || j) == false)) (.agg #[.int .i64 aQ, .int .i64 aR, .int .i64 aS, .int .i64 aT, .int .i64 aU, .int .i64 aV, .string (Bs aX), .string (Bs aY), Sl.v aZ, Sl.v x_434_Node_Kids])), (41, fun v w' => ∃ p : Int, ∃ q : Str, (((((((¬ (b ≤ f)) ∧ (¬ ((d.n : Int) ≤ b))) ∧ (¬ (c < 0))) ∧ (¬ ((i.n : Int) ≤ c))) ∧ (j = false))) → au p q w') ∧ v = cV (true && ((((((decide (b ≤ f)) || (decide ((d.n : Int) ≤ b))) || (decide (c < 0))) || (decide ((i.n : Int) ≤ c))) || j) == false)) (.agg #[.int .i64 p, .string (Bs q)])), (42, fun v w' => ∃ m : Int, ∃ o : Str, ∃ p : Int, ∃ q : Str, (((((((¬ (b ≤ f)) ∧ (¬ ((d.n : Int) ≤ b))) ∧ (¬ (c < 0))) ∧ (¬ ((i.n : Int) ≤ c))) ∧ (j = false))) → ar m o w') ∧ (((((((¬ (b ≤ f)) ∧ (¬ ((d.n : Int) ≤ b))) ∧ (¬ (c < 0))) ∧ (¬ ((i.n : Int) ≤ c))) ∧ (j = false))) → au p q w') ∧ v = cV (true && ((((((decide (b ≤ f)) || (decide ((d.n : Int) ≤ b))) || (decide (c < 0))) || (decide ((i.n : Int) ≤ c))) || j) == false)) (.bool (decide (¬ (m = p ∧ o = q))))), (43, fun v w' => ∃ m : Int, ∃ o : Str, ∃ p : Int, ∃ q : Str, (((((((¬ (b ≤ f)) ∧ (¬ ((d.n : Int) ≤ b))) ∧ (¬ (c < 0))) ∧ (¬ ((i.n : Int) ≤ c))) ∧ (j = false))) → ar m o w') ∧ (((((((¬ (b ≤ f)) ∧ (¬ ((d.n : Int) ≤ b))) ∧ (¬ (c < 0))) ∧ (¬ ((i.n : Int) ≤ c))) ∧ (j = false))) → au p q w') ∧ v = .bool ((((((decide (b ≤ f)) || (decide ((d.n : Int) ≤ b))) || (decide (c < 0))) || (decide ((i.n : Int) ≤ c))) || j) || (decide (¬ (m = p ∧ o = q)))))]) l (by kernel_rfl) ⟨fun _ _ _ _ h => by first | exact h | (change _ = _ at h; change _ = _; exact h), fun _ _ _ _ h => by first | exact h | (change _ = _ at h; change _ = _; exact h), fun _ _ _ _ h => by first | exact h | (change _ = _ at h; change _ = _; exact h), fun _ _ _ _ h => by first | exact h | (change _ = _ at h; change _ = _; exact h), fun _ _ _ _ h => by first | exact h | (change _ = _ at h; change _ = _; exact h), fun _ _ _ _ h => by first | exact h | (change _ = _ at h; change _ = _; exact h), fun _ _ _ _ h => by first | exact h | (change _ = _ at h; change _ = _; exact h), fun _ _ _ _ h => by first | exact h | (change _ = _ at h; change _ = _; exact h), fun _ _ _ _ h => by first | exact h | (change _ = _ at h; change _ = _; exact h), fun _ _ _ _ h => by first | exact h | (change _ = _ at h; change _ = _; exact h), fun _ _ _ _ h => by first | exact h | (change _ = _ at h; change _ = _; exact h), fun _ _ _ _ h => by first | exact h | (change _ = _ at h; change _ = _; exact h), fun _ _ _ _ h => by first | exact h | (change _ = _ at h; change _ = _; exact h), fun _ _ _ _ h => by first | exact h | (change _ = _ at h; change _ = _; exact h), fun _ _ _ _ h => by first | exact h | (change _ = _ at h; change _ = _; exact h), fun _ _ _ _ h => by first | exact h | (change _ = _ at h; change _ = _; exact h), fun _ _ _ _ h => by first | exact h | (change _ = _ at h; change _ = _; exact h), fun _ _ _ _ h => by first | exact h | (change _ = _ at h; change _ = _; exact h), fun _ _ _ _ h => by first | exact h | (change _ = _ at h; change _ = _; exact h), fun _ _ _ _ h => by first | exact h | (change _ = _ at h; change _ = _; exact h), fun _ _ _ _ h => by first | exact h | (change _ = _ at h; change _ = _; exact h), fun _ _ _ _ h => by first | exact h | (change _ = _ at h; change _ = _; exact h), fun _ _ _ _ h => by first | exact h | (change _ = _ at h; change _ = _; exact h), fun _ _ _ _ h => by first | exact h | (change _ = _ at h; change _ = _; exact h), fun _ _ _ _ h => by first | exact h | (change _ = _ at h; change _ = _; exact h), fun _ _ _ _ h => by first | exact h | (change _ = _ at h; change _ = _; exact h), fun _ _ _ _ h => by first | exact h | (change _ = _ at h; change _ = _; exact h), fun _ _ _ _ h => by first | exact h | (change _ = _ at h; change _ = _; exact h), fun _ _ _ _ h => by first | exact h | (change _ = _ at h; change _ = _; exact h), fun _ _ _ _ h => by first | exact h | (change _ = _ at h; change _ = _; exact h), fun _ _ _ _ h => by first | exact h | (change _ = _ at h; change _ = _; exact h), fun _ _ _ _ h => by first | exact h | (change _ = _ at h; change _ = _; exact h), fun _ _ _ _ h => by first | exact h | (change _ = _ at h; change _ = _; exact h), fun _ _ _ _ h => by first | exact h | (change _ = _ at h; change _ = _; exact h), fun _ _ _ _ h => by first | exact h | (change _ = _ at h; change _ = _; exact h), fun _ _ _ hE ⟨m, o, h0_, e⟩ => ⟨m, o, (fun hp => br m o _ _ hE (h0_ hp)), e⟩, fun _ _ _ _ h => by first | exact h | (change _ = _ at h; change _ = _; exact h), fun _ _ _ _ h => by first | exact h | (change _ = _ at h; change _ = _; exact h), fun _ _ _ _ h => by first | exact h | (change _ = _ at h; change _ = _; exact h), fun _ _ _ _ h => by first | exact h | (change _ = _ at h; change _ = _; exact h), fun _ _ _ _ h => by first | exact h | (change _ = _ at h; change _ = _; exact h), fun _ _ _ hE ⟨p, q, h0_, e⟩ => ⟨p, q, (fun hp => bs p q _ _ hE (h0_ hp)), e⟩, fun _ _ _ hE ⟨m, o, p, q, h0_, h1_, e⟩ => ⟨m, o, p, q, (fun hp => br m o _ _ hE (h0_ hp)), (fun hp => bs p q _ _ hE (h1_ hp)), e⟩, fun _ _ _ hE ⟨m, o, p, q, h0_, h1_, e⟩ => ⟨m, o, p, q, (fun hp => br m o _ _ hE (h0_ hp)), (fun hp => bs p q _ _ hE (h1_ hp)), e⟩, trivial⟩ ⟨?_, ?_, ?_, ?_, ?_, ?_, ?_, ?_, ?_, ?_, ?_, ?_, ?_, ?_, ?_, ?_, ?_, ?_, ?_, ?_, ?_, ?_, ?_, ?_, ?_, ?_, ?_, ?_, ?_, ?_, ?_, ?_, ?_, ?_, ?_, ?_, ?_, ?_, ?_, ?_, ?_, ?_, ?_, ?_, trivial⟩ ?_
    ·intro a w hT
     have hAp := hT.ag l [(12, pB r 0)] ⟨rfl, trivial⟩ (by kernel_rfl)
     exact ovr hAp rfl (r_fieldAddr (hAp.get rfl) Try.underlying40 rfl ti_3 (by decide)) fun _ => Eq.refl _
    ·intro a w hT
     have hAp := hT.ag l [] trivial (by kernel_rfl)
     have hAp := hAp.add (t := 44) (v := pB r 0) (hT.vals 0 rfl 44 rfl)
     exact ovr hAp rfl (r_load1 tU3 rfl (hAp.get rfl) ((aA.ext hT.chg).cell 0 _ rfl)) fun _ => Eq.refl _
    ·intro a w hT
     have hAp := hT.ag l [(9, .int .i64 f)] ⟨rfl, trivial⟩ (by kernel_rfl)
     exact ovr hAp rfl (r_move (hAp.get rfl)) fun _ => Eq.refl _
    ·intro a w hT
     have hAp := hT.ag l [] trivial (by kernel_rfl)
     have hAp := hAp.add (t := 45) (v := .int .i64 b) (hT.vals 1 rfl 45 rfl)
     have hAp := hAp.add (t := 46) (v := .int .i64 f) (hT.vals 2 rfl 46 rfl)
     exact ovr hAp rfl (r_leq (hAp.get rfl) (hAp.get rfl)) fun _ => Eq.refl _
    ·intro a w hT
     have hAp := hT.ag l [] trivial (by kernel_rfl)
     have hAp := hAp.add (t := 47) (v := .bool (decide (b ≤ f))) (hT.vals 3 rfl 47 rfl)
     exact ovr hAp rfl (r_move (hAp.get rfl)) fun _ => Eq.refl _
    ·intro a w hT
     have hAp := hT.ag l [(12, pB r 0)] ⟨rfl, trivial⟩ (by kernel_rfl)
     have hAp := hAp.add (t := 48) (v := .bool (decide (b ≤ f))) (hT.vals 4 rfl 48 rfl)
     exact opk_gval hAp rfl rfl (g := true) (e := (decide (b ≤ f))) rfl (fun hg => r_fieldAddr (hAp.get rfl) Try.underlying40 rfl ti_3 (by decide)) fun _ _ e => ⟨_, e, Chg.refl _ _, fun _ => Eq.refl _⟩
    ·intro a w hT
     have hAp := hT.ag l [] trivial (by kernel_rfl)
     have hAp := hAp.add (t := 48) (v := .bool (decide (b ≤ f))) (hT.vals 4 rfl 48 rfl)
     have hAp := hAp.add (t := 49) (v := cV (true && ((decide (b ≤ f)) == false)) (pB r 0)) (hT.vals 5 rfl 49 rfl)
     exact opk_gval hAp rfl rfl (g := true) (e := (decide (b ≤ f))) rfl (fun hg => r_load1 tU3 rfl (cv_get (hAp.get rfl) hg) ((aA.ext hT.chg).cell 0 _ rfl)) fun _ _ e => ⟨_, e, Chg.refl _ _, fun _ => Eq.refl _⟩
    ·intro a w hT
     have hAp := hT.ag l [(7, Sl.v d)] ⟨rfl, trivial⟩ (by kernel_rfl)
     have hAp := hAp.add (t := 48) (v := .bool (decide (b ≤ f))) (hT.vals 4 rfl 48 rfl)
     exact opk_gval hAp rfl rfl (g := true) (e := (decide (b ≤ f))) rfl (fun hg => r_move (hAp.get rfl)) fun _ _ e => ⟨_, e, Chg.refl _ _, fun _ => Eq.refl _⟩
    ·intro a w hT
     have hAp := hT.ag l [] trivial (by kernel_rfl)
     have hAp := hAp.add (t := 48) (v := .bool (decide (b ≤ f))) (hT.vals 4 rfl 48 rfl)
     have hAp := hAp.add (t := 51) (v := cV (true && ((decide (b ≤ f)) == false)) (Sl.v d)) (hT.vals 7 rfl 51 rfl)
     exact opk_gval hAp rfl rfl (g := true) (e := (decide (b ≤ f))) rfl (fun hg => r_len (cv_get (hAp.get rfl) hg) tU79) fun _ _ e => ⟨_, e, Chg.refl _ _, fun _ => Eq.refl _⟩
    ·intro a w hT
     have hAp := hT.ag l [] trivial (by kernel_rfl)
     have hAp := hAp.add (t := 48) (v := .bool (decide (b ≤ f))) (hT.vals 4 rfl 48 rfl)
     have hAp := hAp.add (t := 50) (v := cV (true && ((decide (b ≤ f)) == false)) (.int .i64 b)) (hT.vals 6 rfl 50 rfl)
     have hAp := hAp.add (t := 52) (v := cV (true && ((decide (b ≤ f)) == false)) (.int .i64 (d.n : Int))) (hT.vals 8 rfl 52 rfl)
     exact opk_gval hAp rfl rfl (g := true) (e := (decide (b ≤ f))) rfl (fun hg => r_geq (cv_get (hAp.get rfl) hg) (cv_get (hAp.get rfl) hg)) fun _ _ e => ⟨_, e, Chg.refl _ _, fun _ => Eq.refl _⟩
    ·intro a w hT
     have hAp := hT.ag l [] trivial (by kernel_rfl)
     have hAp := hAp.add (t := 48) (v := .bool (decide (b ≤ f))) (hT.vals 4 rfl 48 rfl)
     have hAp := hAp.add (t := 53) (v := cV (true && ((decide (b ≤ f)) == false)) (.bool (decide ((d.n : Int) ≤ b)))) (hT.vals 9 rfl 53 rfl)
     exact ovr hAp rfl (r_pick_or (g := (true && ((decide (b ≤ f)) == false))) (hAp.get rfl) (hAp.get rfl) (fun he => g_mkf rfl he)) fun _ => Eq.refl _
    ·intro a w hT
     have hAp := hT.ag l [] trivial (by kernel_rfl)
     have hAp := hAp.add (t := 54) (v := .bool ((decide (b ≤ f)) || (decide ((d.n : Int) ≤ b)))) (hT.vals 10 rfl 54 rfl)
     exact ovr hAp rfl (r_move (hAp.get rfl)) fun _ => Eq.refl _
    ·intro a w hT
     have hAp := hT.ag l [(12, pB r 0)] ⟨rfl, trivial⟩ (by kernel_rfl)
     have hAp := hAp.add (t := 55) (v := .bool ((decide (b ≤ f)) || (decide ((d.n : Int) ≤ b)))) (hT.vals 11 rfl 55 rfl)
     exact opk_gval hAp rfl rfl (g := true) (e := ((decide (b ≤ f)) || (decide ((d.n : Int) ≤ b)))) rfl (fun hg => r_fieldAddr (hAp.get rfl) Try.underlying40 rfl ti_3 (by decide)) fun _ _ e => ⟨_, e, Chg.refl _ _, fun _ => Eq.refl _⟩
    ·intro a w hT
     have hAp := hT.ag l [] trivial (by kernel_rfl)
     have hAp := hAp.add (t := 55) (v := .bool ((decide (b ≤ f)) || (decide ((d.n : Int) ≤ b)))) (hT.vals 11 rfl 55 rfl)
     have hAp := hAp.add (t := 56) (v := cV (true && (((decide (b ≤ f)) || (decide ((d.n : Int) ≤ b))) == false)) (pB r 1)) (hT.vals 12 rfl 56 rfl)
     exact opk_gval hAp rfl rfl (g := true) (e := ((decide (b ≤ f)) || (decide ((d.n : Int) ≤ b)))) rfl (fun hg => r_load1 tU3 rfl (cv_get (hAp.get rfl) hg) ((aA.ext hT.chg).cell 1 _ rfl)) fun _ _ e => ⟨_, e, Chg.refl _ _, fun _ => Eq.refl _⟩
    ·intro a w hT
     have hAp := hT.ag l [] trivial (by kernel_rfl)
     have hAp := hAp.add (t := 55) (v := .bool ((decide (b ≤ f)) || (decide ((d.n : Int) ≤ b)))) (hT.vals 11 rfl 55 rfl)
     have hAp := hAp.add (t := 57) (v := cV (true && (((decide (b ≤ f)) || (decide ((d.n : Int) ≤ b))) == false)) (.int .i64 c)) (hT.vals 13 rfl 57 rfl)
     exact opk_gval hAp rfl rfl (g := true) (e := ((decide (b ≤ f)) || (decide ((d.n : Int) ≤ b)))) rfl (fun hg => r_lss (cv_get (hAp.get rfl) hg) rfl) fun _ _ e => ⟨_, e, Chg.refl _ _, fun _ => Eq.refl _⟩
    ·intro a w hT
     have hAp := hT.ag l [] trivial (by kernel_rfl)
     have hAp := hAp.add (t := 55) (v := .bool ((decide (b ≤ f)) || (decide ((d.n : Int) ≤ b)))) (hT.vals 11 rfl 55 rfl)
     have hAp := hAp.add (t := 58) (v := cV (true && (((decide (b ≤ f)) || (decide ((d.n : Int) ≤ b))) == false)) (.bool (decide (c < 0)))) (hT.vals 14 rfl 58 rfl)
     exact ovr hAp rfl (r_pick_or (g := (true && (((decide (b ≤ f)) || (decide ((d.n : Int) ≤ b))) == false))) (hAp.get rfl) (hAp.get rfl) (fun he => g_mkf rfl he)) fun _ => Eq.refl _
    ·intro a w hT
     have hAp := hT.ag l [] trivial (by kernel_rfl)
     have hAp := hAp.add (t := 59) (v := .bool (((decide (b ≤ f)) || (decide ((d.n : Int) ≤ b))) || (decide (c < 0)))) (hT.vals 15 rfl 59 rfl)
     exact ovr hAp rfl (r_move (hAp.get rfl)) fun _ => Eq.refl _
    ·intro a w hT
     have hAp := hT.ag l [(12, pB r 0)] ⟨rfl, trivial⟩ (by kernel_rfl)
     have hAp := hAp.add (t := 60) (v := .bool (((decide (b ≤ f)) || (decide ((d.n : Int) ≤ b))) || (decide (c < 0)))) (hT.vals 16 rfl 60 rfl)
     exact opk_gval hAp rfl rfl (g := true) (e := (((decide (b ≤ f)) || (decide ((d.n : Int) ≤ b))) || (decide (c < 0)))) rfl (fun hg => r_fieldAddr (hAp.get rfl) Try.underlying40 rfl ti_3 (by decide)) fun _ _ e => ⟨_, e, Chg.refl _ _, fun _ => Eq.refl _⟩
    ·intro a w hT
     have hAp := hT.ag l [] trivial (by kernel_rfl)
     have hAp := hAp.add (t := 60) (v := .bool (((decide (b ≤ f)) || (decide ((d.n : Int) ≤ b))) || (decide (c < 0)))) (hT.vals 16 rfl 60 rfl)
     have hAp := hAp.add (t := 61) (v := cV (true && ((((decide (b ≤ f)) || (decide ((d.n : Int) ≤ b))) || (decide (c < 0))) == false)) (pB r 1)) (hT.vals 17 rfl 61 rfl)
     exact opk_gval hAp rfl rfl (g := true) (e := (((decide (b ≤ f)) || (decide ((d.n : Int) ≤ b))) || (decide (c < 0)))) rfl (fun hg => r_load1 tU3 rfl (cv_get (hAp.get rfl) hg) ((aA.ext hT.chg).cell 1 _ rfl)) fun _ _ e => ⟨_, e, Chg.refl _ _, fun _ => Eq.refl _⟩
    ·intro a w hT
     have hAp := hT.ag l [(8, Sl.v i)] ⟨rfl, trivial⟩ (by kernel_rfl)
     have hAp := hAp.add (t := 60) (v := .bool (((decide (b ≤ f)) || (decide ((d.n : Int) ≤ b))) || (decide (c < 0)))) (hT.vals 16 rfl 60 rfl)
     exact opk_gval hAp rfl rfl (g := true) (e := (((decide (b ≤ f)) || (decide ((d.n : Int) ≤ b))) || (decide (c < 0)))) rfl (fun hg => r_move (hAp.get rfl)) fun _ _ e => ⟨_, e, Chg.refl _ _, fun _ => Eq.refl _⟩
    ·intro a w hT
     have hAp := hT.ag l [] trivial (by kernel_rfl)
     have hAp := hAp.add (t := 60) (v := .bool (((decide (b ≤ f)) || (decide ((d.n : Int) ≤ b))) || (decide (c < 0)))) (hT.vals 16 rfl 60 rfl)
     have hAp := hAp.add (t := 63) (v := cV (true && ((((decide (b ≤ f)) || (decide ((d.n : Int) ≤ b))) || (decide (c < 0))) == false)) (Sl.v i)) (hT.vals 19 rfl 63 rfl)
     exact opk_gval hAp rfl rfl (g := true) (e := (((decide (b ≤ f)) || (decide ((d.n : Int) ≤ b))) || (decide (c < 0)))) rfl (fun hg => r_len (cv_get (hAp.get rfl) hg) tU79) fun _ _ e => ⟨_, e, Chg.refl _ _, fun _ => Eq.refl _⟩
    ·intro a w hT
     have hAp := hT.ag l [] trivial (by kernel_rfl)
     have hAp := hAp.add (t := 60) (v := .bool (((decide (b ≤ f)) || (decide ((d.n : Int) ≤ b))) || (decide (c < 0)))) (hT.vals 16 rfl 60 rfl)
     have hAp := hAp.add (t := 62) (v := cV (true && ((((decide (b ≤ f)) || (decide ((d.n : Int) ≤ b))) || (decide (c < 0))) == false)) (.int .i64 c)) (hT.vals 18 rfl 62 rfl)
     have hAp := hAp.add (t := 64) (v := cV (true && ((((decide (b ≤ f)) || (decide ((d.n : Int) ≤ b))) || (decide (c < 0))) == false)) (.int .i64 (i.n : Int))) (hT.vals 20 rfl 64 rfl)
     exact opk_gval hAp rfl rfl (g := true) (e := (((decide (b ≤ f)) || (decide ((d.n : Int) ≤ b))) || (decide (c < 0)))) rfl (fun hg => r_geq (cv_get (hAp.get rfl) hg) (cv_get (hAp.get rfl) hg)) fun _ _ e => ⟨_, e, Chg.refl _ _, fun _ => Eq.refl _⟩
    ·intro a w hT
     have hAp := hT.ag l [] trivial (by kernel_rfl)
     have hAp := hAp.add (t := 60) (v := .bool (((decide (b ≤ f)) || (decide ((d.n : Int) ≤ b))) || (decide (c < 0)))) (hT.vals 16 rfl 60 rfl)
     have hAp := hAp.add (t := 65) (v := cV (true && ((((decide (b ≤ f)) || (decide ((d.n : Int) ≤ b))) || (decide (c < 0))) == false)) (.bool (decide ((i.n : Int) ≤ c)))) (hT.vals 21 rfl 65 rfl)
     exact ovr hAp rfl (r_pick_or (g := (true && ((((decide (b ≤ f)) || (decide ((d.n : Int) ≤ b))) || (decide (c < 0))) == false))) (hAp.get rfl) (hAp.get rfl) (fun he => g_mkf rfl he)) fun _ => Eq.refl _
    ·intro a w hT
     have hAp := hT.ag l [] trivial (by kernel_rfl)
     have hAp := hAp.add (t := 66) (v := .bool ((((decide (b ≤ f)) || (decide ((d.n : Int) ≤ b))) || (decide (c < 0))) || (decide ((i.n : Int) ≤ c)))) (hT.vals 22 rfl 66 rfl)
     exact ovr hAp rfl (r_move (hAp.get rfl)) fun _ => Eq.refl _
    ·intro a w hT
     have hAp := hT.ag l [(10, .map y)] ⟨rfl, trivial⟩ (by kernel_rfl)
     have hAp := hAp.add (t := 67) (v := .bool ((((decide (b ≤ f)) || (decide ((d.n : Int) ≤ b))) || (decide (c < 0))) || (decide ((i.n : Int) ≤ c)))) (hT.vals 23 rfl 67 rfl)
     exact opk_gval hAp rfl rfl (g := true) (e := ((((decide (b ≤ f)) || (decide ((d.n : Int) ≤ b))) || (decide (c < 0))) || (decide ((i.n : Int) ≤ c)))) rfl (fun hg => r_move (hAp.get rfl)) fun _ _ e => ⟨_, e, Chg.refl _ _, fun _ => Eq.refl _⟩
    ·intro a w hT
     have hAp := hT.ag l [(12, pB r 0)] ⟨rfl, trivial⟩ (by kernel_rfl)
     have hAp := hAp.add (t := 67) (v := .bool ((((decide (b ≤ f)) || (decide ((d.n : Int) ≤ b))) || (decide (c < 0))) || (decide ((i.n : Int) ≤ c)))) (hT.vals 23 rfl 67 rfl)
     exact opk_gval hAp rfl rfl (g := true) (e := ((((decide (b ≤ f)) || (decide ((d.n : Int) ≤ b))) || (decide (c < 0))) || (decide ((i.n : Int) ≤ c)))) rfl (fun hg => r_fieldAddr (hAp.get rfl) Try.underlying40 rfl ti_3 (by decide)) fun _ _ e => ⟨_, e, Chg.refl _ _, fun _ => Eq.refl _⟩
    ·intro a w hT
     have hAp := hT.ag l [] trivial (by kernel_rfl)
     have hAp := hAp.add (t := 67) (v := .bool ((((decide (b ≤ f)) || (decide ((d.n : Int) ≤ b))) || (decide (c < 0))) || (decide ((i.n : Int) ≤ c)))) (hT.vals 23 rfl 67 rfl)
     have hAp := hAp.add (t := 69) (v := cV (true && (((((decide (b ≤ f)) || (decide ((d.n : Int) ≤ b))) || (decide (c < 0))) || (decide ((i.n : Int) ≤ c))) == false)) (pB r 1)) (hT.vals 25 rfl 69 rfl)
     exact opk_gval hAp rfl rfl (g := true) (e := ((((decide (b ≤ f)) || (decide ((d.n : Int) ≤ b))) || (decide (c < 0))) || (decide ((i.n : Int) ≤ c)))) rfl (fun hg => r_load1 tU3 rfl (cv_get (hAp.get rfl) hg) ((aA.ext hT.chg).cell 1 _ rfl)) fun _ _ e => ⟨_, e, Chg.refl _ _, fun _ => Eq.refl _⟩
    ·intro a w hT
     have hAp := hT.ag l [] trivial (by kernel_rfl)
     have hAp := hAp.add (t := 67) (v := .bool ((((decide (b ≤ f)) || (decide ((d.n : Int) ≤ b))) || (decide (c < 0))) || (decide ((i.n : Int) ≤ c)))) (hT.vals 23 rfl 67 rfl)
     have hAp := hAp.add (t := 68) (v := cV (true && (((((decide (b ≤ f)) || (decide ((d.n : Int) ≤ b))) || (decide (c < 0))) || (decide ((i.n : Int) ≤ c))) == false)) (.map y)) (hT.vals 24 rfl 68 rfl)
     have hAp := hAp.add (t := 70) (v := cV (true && (((((decide (b ≤ f)) || (decide ((d.n : Int) ≤ b))) || (decide (c < 0))) || (decide ((i.n : Int) ≤ c))) == false)) (.int .i64 c)) (hT.vals 26 rfl 70 rfl)
     exact opk_gval hAp rfl rfl (g := true) (e := ((((decide (b ≤ f)) || (decide ((d.n : Int) ≤ b))) || (decide (c < 0))) || (decide ((i.n : Int) ≤ c)))) rfl (fun hg => r_lookup (cv_get (hAp.get rfl) hg) (cv_get (hAp.get rfl) hg) ((dU ⟨⟨⟨(of_decide_eq_false (b_or_f (b_or_f (b_or_f (g_f hg)).1).1).1), (of_decide_eq_false (b_or_f (b_or_f (b_or_f (g_f hg)).1).1).2)⟩, (of_decide_eq_false (b_or_f (b_or_f (g_f hg)).1).2)⟩, (of_decide_eq_false (b_or_f (g_f hg)).2)⟩) _ hT.chg)) fun _ _ e => ⟨_, e, Chg.refl _ _, fun _ => Eq.refl _⟩
    ·intro a w hT
     have hAp := hT.ag l [] trivial (by kernel_rfl)
     have hAp := hAp.add (t := 67) (v := .bool ((((decide (b ≤ f)) || (decide ((d.n : Int) ≤ b))) || (decide (c < 0))) || (decide ((i.n : Int) ≤ c)))) (hT.vals 23 rfl 67 rfl)
     have hAp := hAp.add (t := 71) (v := cV (true && (((((decide (b ≤ f)) || (decide ((d.n : Int) ≤ b))) || (decide (c < 0))) || (decide ((i.n : Int) ≤ c))) == false)) (.bool j)) (hT.vals 27 rfl 71 rfl)
     exact ovr hAp rfl (r_pick_or (g := (true && (((((decide (b ≤ f)) || (decide ((d.n : Int) ≤ b))) || (decide (c < 0))) || (decide ((i.n : Int) ≤ c))) == false))) (hAp.get rfl) (hAp.get rfl) (fun he => g_mkf rfl he)) fun _ => Eq.refl _
    ·intro a w hT
     have hAp := hT.ag l [] trivial (by kernel_rfl)
     have hAp := hAp.add (t := 72) (v := .bool (((((decide (b ≤ f)) || (decide ((d.n : Int) ≤ b))) || (decide (c < 0))) || (decide ((i.n : Int) ≤ c))) || j)) (hT.vals 28 rfl 72 rfl)
     exact ovr hAp rfl (r_move (hAp.get rfl)) fun _ => Eq.refl _
    ·intro a w hT
     have hAp := hT.ag l [(7, Sl.v d)] ⟨rfl, trivial⟩ (by kernel_rfl)
     have hAp := hAp.add (t := 73) (v := .bool (((((decide (b ≤ f)) || (decide ((d.n : Int) ≤ b))) || (decide (c < 0))) || (decide ((i.n : Int) ≤ c))) || j)) (hT.vals 29 rfl 73 rfl)
     exact opk_gval hAp rfl rfl (g := true) (e := (((((decide (b ≤ f)) || (decide ((d.n : Int) ≤ b))) || (decide (c < 0))) || (decide ((i.n : Int) ≤ c))) || j)) rfl (fun hg => r_move (hAp.get rfl)) fun _ _ e => ⟨_, e, Chg.refl _ _, fun _ => Eq.refl _⟩
    ·intro a w hT
     have hAp := hT.ag l [(12, pB r 0)] ⟨rfl, trivial⟩ (by kernel_rfl)
     have hAp := hAp.add (t := 73) (v := .bool (((((decide (b ≤ f)) || (decide ((d.n : Int) ≤ b))) || (decide (c < 0))) || (decide ((i.n : Int) ≤ c))) || j)) (hT.vals 29 rfl 73 rfl)
     exact opk_gval hAp rfl rfl (g := true) (e := (((((decide (b ≤ f)) || (decide ((d.n : Int) ≤ b))) || (decide (c < 0))) || (decide ((i.n : Int) ≤ c))) || j)) rfl (fun hg => r_fieldAddr (hAp.get rfl) Try.underlying40 rfl ti_3 (by decide)) fun _ _ e => ⟨_, e, Chg.refl _ _, fun _ => Eq.refl _⟩
    ·intro a w hT
     have hAp := hT.ag l [] trivial (by kernel_rfl)
     have hAp := hAp.add (t := 73) (v := .bool (((((decide (b ≤ f)) || (decide ((d.n : Int) ≤ b))) || (decide (c < 0))) || (decide ((i.n : Int) ≤ c))) || j)) (hT.vals 29 rfl 73 rfl)
     have hAp := hAp.add (t := 75) (v := cV (true && ((((((decide (b ≤ f)) || (decide ((d.n : Int) ≤ b))) || (decide (c < 0))) || (decide ((i.n : Int) ≤ c))) || j) == false)) (pB r 0)) (hT.vals 31 rfl 75 rfl)
     exact opk_gval hAp rfl rfl (g := true) (e := (((((decide (b ≤ f)) || (decide ((d.n : Int) ≤ b))) || (decide (c < 0))) || (decide ((i.n : Int) ≤ c))) || j)) rfl (fun hg => r_load1 tU3 rfl (cv_get (hAp.get rfl) hg) ((aA.ext hT.chg).cell 0 _ rfl)) fun _ _ e => ⟨_, e, Chg.refl _ _, fun _ => Eq.refl _⟩
    ·intro a w hT
     have hAp := hT.ag l [] trivial (by kernel_rfl)
     have hAp := hAp.add (t := 73) (v := .bool (((((decide (b ≤ f)) || (decide ((d.n : Int) ≤ b))) || (decide (c < 0))) || (decide ((i.n : Int) ≤ c))) || j)) (hT.vals 29 rfl 73 rfl)
     have hAp := hAp.add (t := 74) (v := cV (true && ((((((decide (b ≤ f)) || (decide ((d.n : Int) ≤ b))) || (decide (c < 0))) || (decide ((i.n : Int) ≤ c))) || j) == false)) (Sl.v d)) (hT.vals 30 rfl 74 rfl)
     have hAp := hAp.add (t := 76) (v := cV (true && ((((((decide (b ≤ f)) || (decide ((d.n : Int) ≤ b))) || (decide (c < 0))) || (decide ((i.n : Int) ≤ c))) || j) == false)) (.int .i64 b)) (hT.vals 32 rfl 76 rfl)
     exact opk_gval hAp rfl rfl (g := true) (e := (((((decide (b ≤ f)) || (decide ((d.n : Int) ≤ b))) || (decide (c < 0))) || (decide ((i.n : Int) ≤ c))) || j)) rfl (fun hg => r_indexAddr (cv_get (hAp.get rfl) hg) (cv_get (hAp.get rfl) hg) tU79 ti_86 (cj ⟨⟨⟨⟨(of_decide_eq_false (b_or_f (b_or_f (b_or_f (b_or_f (g_f hg)).1).1).1).1), (of_decide_eq_false (b_or_f (b_or_f (b_or_f (b_or_f (g_f hg)).1).1).1).2)⟩, (of_decide_eq_false (b_or_f (b_or_f (b_or_f (g_f hg)).1).1).2)⟩, (of_decide_eq_false (b_or_f (b_or_f (g_f hg)).1).2)⟩, (b_or_f (g_f hg)).2⟩).1 (cj ⟨⟨⟨⟨(of_decide_eq_false (b_or_f (b_or_f (b_or_f (b_or_f (g_f hg)).1).1).1).1), (of_decide_eq_false (b_or_f (b_or_f (b_or_f (b_or_f (g_f hg)).1).1).1).2)⟩, (of_decide_eq_false (b_or_f (b_or_f (b_or_f (g_f hg)).1).1).2)⟩, (of_decide_eq_false (b_or_f (b_or_f (g_f hg)).1).2)⟩, (b_or_f (g_f hg)).2⟩).2) fun _ _ e => ⟨_, e, Chg.refl _ _, fun _ => Eq.refl _⟩
    ·intro a w hT
     have hAp := hT.ag l [] trivial (by kernel_rfl)
     have hAp := hAp.add (t := 73) (v := .bool (((((decide (b ≤ f)) || (decide ((d.n : Int) ≤ b))) || (decide (c < 0))) || (decide ((i.n : Int) ≤ c))) || j)) (hT.vals 29 rfl 73 rfl)
     have hAp := hAp.add (t := 77) (v := cV (true && ((((((decide (b ≤ f)) || (decide ((d.n : Int) ≤ b))) || (decide (c < 0))) || (decide ((i.n : Int) ≤ c))) || j) == false)) (.pointer (some (a5.add (b.toNat * 10))))) (hT.vals 33 rfl 77 rfl)
     exact opk_gval hAp rfl rfl (g := true) (e := (((((decide (b ≤ f)) || (decide ((d.n : Int) ≤ b))) || (decide (c < 0))) || (decide ((i.n : Int) ≤ c))) || j)) rfl (fun hg => r_loadN Try.underlying86 rfl ti_86 (cv_get (hAp.get rfl) hg) ((dY ⟨⟨⟨⟨(of_decide_eq_false (b_or_f (b_or_f (b_or_f (b_or_f (g_f hg)).1).1).1).1), (of_decide_eq_false (b_or_f (b_or_f (b_or_f (b_or_f (g_f hg)).1).1).1).2)⟩, (of_decide_eq_false (b_or_f (b_or_f (b_or_f (g_f hg)).1).1).2)⟩, (of_decide_eq_false (b_or_f (b_or_f (g_f hg)).1).2)⟩, (b_or_f (g_f hg)).2⟩).ext hT.chg)) fun _ _ e => ⟨_, e, Chg.refl _ _, fun _ => Eq.refl _⟩
    ·intro a w hT
     have hAp := hT.ag l [] trivial (by kernel_rfl)
     have hAp := hAp.add (t := 73) (v := .bool (((((decide (b ≤ f)) || (decide ((d.n : Int) ≤ b))) || (decide (c < 0))) || (decide ((i.n : Int) ≤ c))) || j)) (hT.vals 29 rfl 73 rfl)
     have hAp := hAp.add (t := 78) (v := cV (true && ((((((decide (b ≤ f)) || (decide ((d.n : Int) ≤ b))) || (decide (c < 0))) || (decide ((i.n : Int) ≤ c))) || j) == false)) (.agg #[.int .i64 aG, .int .i64 aH, .int .i64 aI, .int .i64 aJ, .int .i64 aK, .int .i64 aL, .string (Bs aM), .string (Bs aN), Sl.v aO, Sl.v aP])) (hT.vals 34 rfl 78 rfl)
     exact opk_gcallM hAp rfl rfl (g := true) (e := (((((decide (b ≤ f)) || (decide ((d.n : Int) ≤ b))) || (decide (c < 0))) || (decide ((i.n : Int) ≤ c))) || j)) rfl (fun hg => r_call (args := #[.agg #[.int .i64 aG, .int .i64 aH, .int .i64 aI, .int .i64 aJ, .int .i64 aK, .int .i64 aL, .string (Bs aM), .string (Bs aN), Sl.v aO, Sl.v aP]]) Try.func61 (by decide) rfl (map_arr (ml_cons (cv_get (hAp.get rfl) hg) ml_nil)) rfl) (fun hg => d0 ⟨⟨⟨⟨(of_decide_eq_false (b_or_f (b_or_f (b_or_f (b_or_f (g_f hg)).1).1).1).1), (of_decide_eq_false (b_or_f (b_or_f (b_or_f (b_or_f (g_f hg)).1).1).1).2)⟩, (of_decide_eq_false (b_or_f (b_or_f (b_or_f (g_f hg)).1).1).2)⟩, (of_decide_eq_false (b_or_f (b_or_f (g_f hg)).1).2)⟩, (b_or_f (g_f hg)).2⟩ w hT.chg) fun _ _ _ _ e hE hR => ⟨_, e, hE, fun _ => by obtain ⟨⟨m, o⟩, hx, hV⟩ := cvty (α := Int × Str) (fun s => .agg #[.int .i64 s.1, .string (Bs s.2)]) (fun s w => ar s.1 s.2 w) (fun hg => by obtain ⟨m, o, h1, h2⟩ := hR hg; exact ⟨(m, o), h1, h2⟩); exact ⟨m, o, fun hp => hV (g_mkf rfl (b_or_mkf ⟨(b_or_mkf ⟨(b_or_mkf ⟨(b_or_mkf ⟨(decide_eq_false hp.1.1.1.1), (decide_eq_false hp.1.1.1.2)⟩), (decide_eq_false hp.1.1.2)⟩), (decide_eq_false hp.1.2)⟩), hp.2⟩)), hx⟩⟩
    ·intro a w hT
     have hAp := hT.ag l [(8, Sl.v i)] ⟨rfl, trivial⟩ (by kernel_rfl)
     have hAp := hAp.add (t := 73) (v := .bool (((((decide (b ≤ f)) || (decide ((d.n : Int) ≤ b))) || (decide (c < 0))) || (decide ((i.n : Int) ≤ c))) || j)) (hT.vals 29 rfl 73 rfl)
     exact opk_gval hAp rfl rfl (g := true) (e := (((((decide (b ≤ f)) || (decide ((d.n : Int) ≤ b))) || (decide (c < 0))) || (decide ((i.n : Int) ≤ c))) || j)) rfl (fun hg => r_move (hAp.get rfl)) fun _ _ e => ⟨_, e, Chg.refl _ _, fun _ => Eq.refl _⟩
    ·intro a w hT
     have hAp := hT.ag l [(12, pB r 0)] ⟨rfl, trivial⟩ (by kernel_rfl)
     have hAp := hAp.add (t := 73) (v := .bool (((((decide (b ≤ f)) || (decide ((d.n : Int) ≤ b))) || (decide (c < 0))) || (decide ((i.n : Int) ≤ c))) || j)) (hT.vals 29 rfl 73 rfl)
     exact opk_gval hAp rfl rfl (g := true) (e := (((((decide (b ≤ f)) || (decide ((d.n : Int) ≤ b))) || (decide (c < 0))) || (decide ((i.n : Int) ≤ c))) || j)) rfl (fun hg => r_fieldAddr (hAp.get rfl) Try.underlying40 rfl ti_3 (by decide)) fun _ _ e => ⟨_, e, Chg.refl _ _, fun _ => Eq.refl _⟩
    ·intro a w hT
     have hAp := hT.ag l [] trivial (by kernel_rfl)
     have hAp := hAp.add (t := 73) (v := .bool (((((decide (b ≤ f)) || (decide ((d.n : Int) ≤ b))) || (decide (c < 0))) || (decide ((i.n : Int) ≤ c))) || j)) (hT.vals 29 rfl 73 rfl)
     have hAp := hAp.add (t := 81) (v := cV (true && ((((((decide (b ≤ f)) || (decide ((d.n : Int) ≤ b))) || (decide (c < 0))) || (decide ((i.n : Int) ≤ c))) || j) == false)) (pB r 1)) (hT.vals 37 rfl 81 rfl)
     exact opk_gval hAp rfl rfl (g := true) (e := (((((decide (b ≤ f)) || (decide ((d.n : Int) ≤ b))) || (decide (c < 0))) || (decide ((i.n : Int) ≤ c))) || j)) rfl (fun hg => r_load1 tU3 rfl (cv_get (hAp.get rfl) hg) ((aA.ext hT.chg).cell 1 _ rfl)) fun _ _ e => ⟨_, e, Chg.refl _ _, fun _ => Eq.refl _⟩
    ·intro a w hT
     have hAp := hT.ag l [] trivial (by kernel_rfl)
     have hAp := hAp.add (t := 73) (v := .bool (((((decide (b ≤ f)) || (decide ((d.n : Int) ≤ b))) || (decide (c < 0))) || (decide ((i.n : Int) ≤ c))) || j)) (hT.vals 29 rfl 73 rfl)
     have hAp := hAp.add (t := 80) (v := cV (true && ((((((decide (b ≤ f)) || (decide ((d.n : Int) ≤ b))) || (decide (c < 0))) || (decide ((i.n : Int) ≤ c))) || j) == false)) (Sl.v i)) (hT.vals 36 rfl 80 rfl)
     have hAp := hAp.add (t := 82) (v := cV (true && ((((((decide (b ≤ f)) || (decide ((d.n : Int) ≤ b))) || (decide (c < 0))) || (decide ((i.n : Int) ≤ c))) || j) == false)) (.int .i64 c)) (hT.vals 38 rfl 82 rfl)
     exact opk_gval hAp rfl rfl (g := true) (e := (((((decide (b ≤ f)) || (decide ((d.n : Int) ≤ b))) || (decide (c < 0))) || (decide ((i.n : Int) ≤ c))) || j)) rfl (fun hg => r_indexAddr (cv_get (hAp.get rfl) hg) (cv_get (hAp.get rfl) hg) tU79 ti_86 (ck ⟨⟨⟨⟨(of_decide_eq_false (b_or_f (b_or_f (b_or_f (b_or_f (g_f hg)).1).1).1).1), (of_decide_eq_false (b_or_f (b_or_f (b_or_f (b_or_f (g_f hg)).1).1).1).2)⟩, (of_decide_eq_false (b_or_f (b_or_f (b_or_f (g_f hg)).1).1).2)⟩, (of_decide_eq_false (b_or_f (b_or_f (g_f hg)).1).2)⟩, (b_or_f (g_f hg)).2⟩).1 (ck ⟨⟨⟨⟨(of_decide_eq_false (b_or_f (b_or_f (b_or_f (b_or_f (g_f hg)).1).1).1).1), (of_decide_eq_false (b_or_f (b_or_f (b_or_f (b_or_f (g_f hg)).1).1).1).2)⟩, (of_decide_eq_false (b_or_f (b_or_f (b_or_f (g_f hg)).1).1).2)⟩, (of_decide_eq_false (b_or_f (b_or_f (g_f hg)).1).2)⟩, (b_or_f (g_f hg)).2⟩).2) fun _ _ e => ⟨_, e, Chg.refl _ _, fun _ => Eq.refl _⟩
    ·intro a w hT
     have hAp := hT.ag l [] trivial (by kernel_rfl)
     have hAp := hAp.add (t := 73) (v := .bool (((((decide (b ≤ f)) || (decide ((d.n : Int) ≤ b))) || (decide (c < 0))) || (decide ((i.n : Int) ≤ c))) || j)) (hT.vals 29 rfl 73 rfl)
     have hAp := hAp.add (t := 83) (v := cV (true && ((((((decide (b ≤ f)) || (decide ((d.n : Int) ≤ b))) || (decide (c < 0))) || (decide ((i.n : Int) ≤ c))) || j) == false)) (.pointer (some (p_429.add (c.toNat * 10))))) (hT.vals 39 rfl 83 rfl)
     exact opk_gval hAp rfl rfl (g := true) (e := (((((decide (b ≤ f)) || (decide ((d.n : Int) ≤ b))) || (decide (c < 0))) || (decide ((i.n : Int) ≤ c))) || j)) rfl (fun hg => r_loadN Try.underlying86 rfl ti_86 (cv_get (hAp.get rfl) hg) ((d3 ⟨⟨⟨⟨(of_decide_eq_false (b_or_f (b_or_f (b_or_f (b_or_f (g_f hg)).1).1).1).1), (of_decide_eq_false (b_or_f (b_or_f (b_or_f (b_or_f (g_f hg)).1).1).1).2)⟩, (of_decide_eq_false (b_or_f (b_or_f (b_or_f (g_f hg)).1).1).2)⟩, (of_decide_eq_false (b_or_f (b_or_f (g_f hg)).1).2)⟩, (b_or_f (g_f hg)).2⟩).ext hT.chg)) fun _ _ e => ⟨_, e, Chg.refl _ _, fun _ => Eq.refl _⟩
    ·intro a w hT
     have hAp := hT.ag l [] trivial (by kernel_rfl)
     have hAp := hAp.add (t := 73) (v := .bool (((((decide (b ≤ f)) || (decide ((d.n : Int) ≤ b))) || (decide (c < 0))) || (decide ((i.n : Int) ≤ c))) || j)) (hT.vals 29 rfl 73 rfl)
     have hAp := hAp.add (t := 84) (v := cV (true && ((((((decide (b ≤ f)) || (decide ((d.n : Int) ≤ b))) || (decide (c < 0))) || (decide ((i.n : Int) ≤ c))) || j) == false)) (.agg #[.int .i64 aQ, .int .i64 aR, .int .i64 aS, .int .i64 aT, .int .i64 aU, .int .i64 aV, .string (Bs aX), .string (Bs aY), Sl.v aZ, Sl.v x_434_Node_Kids])) (hT.vals 40 rfl 84 rfl)
     exact opk_gcallM hAp rfl rfl (g := true) (e := (((((decide (b ≤ f)) || (decide ((d.n : Int) ≤ b))) || (decide (c < 0))) || (decide ((i.n : Int) ≤ c))) || j)) rfl (fun hg => r_call (args := #[.agg #[.int .i64 aQ, .int .i64 aR, .int .i64 aS, .int .i64 aT, .int .i64 aU, .int .i64 aV, .string (Bs aX), .string (Bs aY), Sl.v aZ, Sl.v x_434_Node_Kids]]) Try.func61 (by decide) rfl (map_arr (ml_cons (cv_get (hAp.get rfl) hg) ml_nil)) rfl) (fun hg => d5 ⟨⟨⟨⟨(of_decide_eq_false (b_or_f (b_or_f (b_or_f (b_or_f (g_f hg)).1).1).1).1), (of_decide_eq_false (b_or_f (b_or_f (b_or_f (b_or_f (g_f hg)).1).1).1).2)⟩, (of_decide_eq_false (b_or_f (b_or_f (b_or_f (g_f hg)).1).1).2)⟩, (of_decide_eq_false (b_or_f (b_or_f (g_f hg)).1).2)⟩, (b_or_f (g_f hg)).2⟩ w hT.chg) fun _ _ _ _ e hE hR => ⟨_, e, hE, fun _ => by obtain ⟨⟨p, q⟩, hx, hV⟩ := cvty (α := Int × Str) (fun s => .agg #[.int .i64 s.1, .string (Bs s.2)]) (fun s w => au s.1 s.2 w) (fun hg => by obtain ⟨p, q, h1, h2⟩ := hR hg; exact ⟨(p, q), h1, h2⟩); exact ⟨p, q, fun hp => hV (g_mkf rfl (b_or_mkf ⟨(b_or_mkf ⟨(b_or_mkf ⟨(b_or_mkf ⟨(decide_eq_false hp.1.1.1.1), (decide_eq_false hp.1.1.1.2)⟩), (decide_eq_false hp.1.1.2)⟩), (decide_eq_false hp.1.2)⟩), hp.2⟩)), hx⟩⟩
    ·intro a w hT
     have hAp := hT.ag l [] trivial (by kernel_rfl)
     have hAp := hAp.add (t := 73) (v := .bool (((((decide (b ≤ f)) || (decide ((d.n : Int) ≤ b))) || (decide (c < 0))) || (decide ((i.n : Int) ≤ c))) || j)) (hT.vals 29 rfl 73 rfl)
     obtain ⟨m, o, d7, d8⟩ := hT.vals 35 rfl 79 rfl
     have hAp := hAp.add d8
     obtain ⟨p, q, d9, fa⟩ := hT.vals 41 rfl 85 rfl
     have hAp := hAp.add fa
     exact opk_gval hAp rfl rfl (g := true) (e := (((((decide (b ≤ f)) || (decide ((d.n : Int) ≤ b))) || (decide (c < 0))) || (decide ((i.n : Int) ≤ c))) || j)) rfl (fun hg => r_aneqd (cv_get (hAp.get rfl) hg) (cv_get (hAp.get rfl) hg) (eq_109 _ _ _ _)) fun _ _ e => ⟨_, e, Chg.refl _ _, fun _ => ⟨m, o, p, q, d7, d9, rfl⟩⟩
    ·intro a w hT
     have hAp := hT.ag l [] trivial (by kernel_rfl)
     have hAp := hAp.add (t := 73) (v := .bool (((((decide (b ≤ f)) || (decide ((d.n : Int) ≤ b))) || (decide (c < 0))) || (decide ((i.n : Int) ≤ c))) || j)) (hT.vals 29 rfl 73 rfl)
     obtain ⟨m, o, p, q, fb, fc, fd⟩ := hT.vals 42 rfl 86 rfl
     have hAp := hAp.add fd
     exact opk_val hAp rfl (r_pick_or (g := (true && ((((((decide (b ≤ f)) || (decide ((d.n : Int) ≤ b))) || (decide (c < 0))) || (decide ((i.n : Int) ≤ c))) || j) == false))) (hAp.get rfl) (hAp.get rfl) (fun he => g_mkf rfl he)) fun _ _ e => ⟨_, e, Chg.refl _ _, fun _ => ⟨m, o, p, q, fb, fc, rfl⟩⟩
    ·intro f6 az bv ff fg
     have fh := ff [(7, Sl.v d), (8, Sl.v i), (10, .map y), (12, pB r 0), (38, Sl.v k), (39, .int .i64 (k.n : Int)), (40, .int .i64 x)] ⟨rfl, rfl, rfl, rfl, rfl, rfl, rfl, trivial⟩ (by kernel_rfl)
     obtain ⟨m, o, p, q, fi, fj, fk⟩ := fg 43 rfl 87 rfl
     have fl := fh.add fk
     have bx := aA.ext bv
     have f7 : Chg [] an az := bv
     have cl := d6 az m o p q bv fi fj
     refine PR_end (by kernel_rfl) ?_
     have bd := fl.kp [(7, Sl.v d), (8, Sl.v i), (10, .map y), (12, pB r 0), (38, Sl.v k), (39, .int .i64 (k.n : Int)), (40, .int .i64 x), (87, .bool ((((((decide (b ≤ f)) || (decide ((d.n : Int) ≤ b))) || (decide (c < 0))) || (decide ((i.n : Int) ≤ c))) || j) || (decide (¬ (m = p ∧ o = q)))))] rfl
     refine then_normal ?_
     refine wp_cond_split (bd.get rfl) (fun hc => ?_) (fun hc => ?_)
     ·have fm := cl.1 ((b_or_t hc).imp (fun h => ((b_or_t h).imp (fun h => ((b_or_t h).imp (fun h => ((b_or_t h).imp (fun h => ((b_or_t h).imp (fun h => (of_decide_eq_true h)) (fun h => (of_decide_eq_true h)))) (fun h => (of_decide_eq_true h)))) (fun h => (of_decide_eq_true h)))) (fun h => h))) (fun h => (of_decide_eq_true h)))
      clear hc
      refine wp_seq (wp_region_lit ?_)
      refine sqv bd rfl (r_assign rfl) fun _ fn => sq_end ?_
      have cm := fn.kp [(6, .bool false)] rfl
      refine then_normal ?_
      refine wp_ret ?_
      refine then_ret ?_
      refine block_ret ?_
      refine then_ret ?_
      refine then_ret ?_
      refine block_ret ?_
      refine then_ret ?_
      exact res_all (vs := [.bool false]) rfl cm ⟨res_of_tmp cm rfl, trivial⟩ fm
     ·have fo := cl.2 ⟨⟨⟨⟨⟨(of_decide_eq_false (b_or_f (b_or_f (b_or_f (b_or_f (b_or_f hc).1).1).1).1).1), (of_decide_eq_false (b_or_f (b_or_f (b_or_f (b_or_f (b_or_f hc).1).1).1).1).2)⟩, (of_decide_eq_false (b_or_f (b_or_f (b_or_f (b_or_f hc).1).1).1).2)⟩, (of_decide_eq_false (b_or_f (b_or_f (b_or_f hc).1).1).2)⟩, (b_or_f (b_or_f hc).1).2⟩, (of_decide_eq_false (b_or_f hc).2)⟩
      clear hc
      refine wp_skip ?_
      refine then_normal (wp_seq (wp_region_lit ?_))
      refine sqv bd rfl (r_fieldAddr (bd.get rfl) Try.underlying40 rfl ti_3 (by decide)) fun _ cn => sqv cn rfl (r_load1 tU3 rfl (cn.get rfl) (bx.cell 0 _ rfl)) fun _ co => sqv co rfl (r_assign (co.get rfl)) fun _ fp => sq_end ?_
      have cp := fp.kp [(7, Sl.v d), (8, Sl.v i), (9, .int .i64 b), (10, .map y), (12, pB r 0), (38, Sl.v k), (39, .int .i64 (k.n : Int)), (40, .int .i64 x)] rfl
      refine then_normal (wp_region_lit ?_)
      refine sqv cp rfl (r_move (cp.get rfl)) fun _ cq => sqv cq rfl (r_fieldAddr (cq.get rfl) Try.underlying40 rfl ti_3 (by decide)) fun _ cr => sqv cr rfl (r_load1 tU3 rfl (cr.get rfl) (bx.cell 1 _ rfl)) fun _ bz => ?_
      refine sq (opk_runU bz (fun _ hr => r_mapUpdate (bz.get rfl) (bz.get rfl) rfl hr) fo fun f8 a9 fq fr f9 fs => ?_)
      have ga := bx.kept fr (.head _)
      refine sq_end ?_
      have ct := fq.kp [(7, Sl.v d), (8, Sl.v i), (9, .int .i64 b), (10, .map y), (38, Sl.v k), (39, .int .i64 (k.n : Int)), (40, .int .i64 x)] rfl
      refine block_normal ?_
      refine then_normal (wp_region_lit ?_)
      obtain ⟨ft, cu⟩ := fs
      refine sqv ct rfl (r_addI (ct.get rfl) rfl ft) fun _ cv => sqv cv rfl (r_move (cv.get rfl)) fun _ fu => sq_end ?_
      have fv := fu.kp [(7, Sl.v d), (8, Sl.v i), (9, .int .i64 b), (10, .map y), (38, Sl.v k), (39, .int .i64 (k.n : Int)), (40, .int .i64 (x + 1))] rfl
      have fx := fv.kp [(7, Sl.v d), (8, Sl.v i), (9, .int .i64 b), (10, .map y), (38, Sl.v k), (39, .int .i64 (k.n : Int)), (40, .int .i64 (x + 1))] rfl
      exact then_normal ⟨(b, x + 1, a9), ⟨fx, rfl, cu.1⟩, cu.2⟩
   ·have fy := cc.2 (of_decide_eq_false hc)
    clear hc
    refine wp_exit ?_
    refine then_exit ?_
    refine then_exit ?_
    refine block_hit ?_
    have fz := a7.kp [] rfl
    refine then_normal (wp_seq (wp_region_lit ?_))
    refine sqv fz rfl (r_assign rfl) fun _ fA => sq_end ?_
    have cx := fA.kp [(6, .bool true)] rfl
    refine then_normal ?_
    refine wp_ret ?_
    exact res_all (vs := [.bool true]) rfl cx ⟨res_of_tmp cx rfl, trivial⟩ fy
def match_of.vc (g : Int) (h : Int) (i : Int) (j : Int) (k : Int) (a : Int) (b : Str) (l : Str) (m : Sl) (n : Sl) (R : Value → World → Prop) (w : World) : Prop :=
∀ (d : World) (f : Nat) (c : Nat), New w f d → New w c d → f ≠ c → Chg [] w d →
R (.agg #[.int .i64 a, .string (Bs b)]) d
theorem match_of.ok (g : Int) (h : Int) (i : Int) (j : Int) (k : Int) (a : Int) (b : Str) (l : Str) (m : Sl) (n : Sl) {R : Value → World → Prop} {w : World} (t : match_of.vc g h i j k a b l m n R w) : Calls Try.prog 61 #[.agg #[.int .i64 g, .int .i64 h, .int .i64 i, .int .i64 j, .int .i64 k, .int .i64 a, .string (Bs b), .string (Bs l), Sl.v m, Sl.v n]] w (Ret R) := by
 refine enter [.agg #[.int .i64 g, .int .i64 h, .int .i64 i, .int .i64 j, .int .i64 k, .int .i64 a, .string (Bs b), .string (Bs l), Sl.v m, Sl.v n]] Try.func61 rfl Try.ntmps61 rfl ?_
 intro a0 u
 unfold match_of.vc at t
 refine wp_seq (wp_region_lit ?_)
 refine sq (opk_new (fun B => .pointer (some ⟨B, 0, none⟩)) u rfl (r_box (cs := [.int .i64 g, .int .i64 h, .int .i64 i, .int .i64 j, .int .i64 k, .int .i64 a, .string (Bs b), .string (Bs l), Sl.v m, Sl.v n]) (u.get rfl) rfl) fun a4 x f an ao y ap _ => ?_)
 have aq : New w f x := ao
 have z : Chg [] w x := an
 refine sq (opk_new (fun B => .pointer (some ⟨B, 0, none⟩)) ap rfl (r_alloc (cs := [.int .i64 0, .string (Bs [])]) ti_109 rfl) fun aH aI c p aa ab ar _ => ?_)
 have ad : f ≠ c := Nat.ne_of_lt (Nat.lt_of_lt_of_le y.lt aa.ge)
 have af := New.of z aa
 have q := y.ext p
 have au := z.more p
 have av := aq.up p.size
 refine sq_end ?_
 have ag := ar.kp [(1, pB f 0), (2, pB c 0)] rfl
 refine then_normal (wp_seq (wp_region_lit ?_))
 refine sqv ag rfl (r_fieldAddr (ag.get rfl) Try.underlying86 rfl ti_26 (by decide)) fun _ ah => sqv ah rfl (r_fieldAddr (ah.get rfl) Try.underlying26 rfl ti_3 (by decide)) fun _ ai => sqv ai rfl (r_load1 tU3 rfl (ai.get rfl) (q.cell 5 _ rfl)) fun _ aj => sqv aj rfl (r_fieldAddr (aj.get rfl) Try.underlying86 rfl ti_26 (by decide)) fun _ ak => sqv ak rfl (r_fieldAddr (ak.get rfl) Try.underlying26 rfl ti_9 (by decide)) fun _ al => sqv al rfl (r_load1 tU9 rfl (al.get rfl) (q.cell 6 _ rfl)) fun _ r => sqv r rfl (r_build (vs := #[(0, .int .i64 a), (1, .string (Bs b))]) (cells := #[.int .i64 a, .string (Bs b)]) (map_arr2 (ml2_cons (r.get rfl) (ml2_cons (r.get rfl) (ml2_nil)))) ti_109 Try.underlying109 pl_109 (by kernel_rfl)) fun _ s => ?_
 refine sq (opk_store s ab (r_store (vs := [.int .i64 a, .string (Bs b)]) (s.get rfl) (s.get rfl) rfl ti_109 ab rfl (ones_all _ rfl)) fun aJ d o ax ay => ?_)
 have az : Box d c 109 [.int .i64 a, .string (Bs b)] := ax
 have aK := q.keep o (by simpa using ad)
 have aA := au.storeNew af o
 have aB := av.up o.size
 have aC := af.up o.size
 refine sq_end ?_
 have am := ay.kp [(2, pB c 0)] rfl
 refine then_normal ?_
 refine wp_ret ?_
 have aD := t d f c aB aC ad aA
 exact res_all (vs := [.agg #[.int .i64 a, .string (Bs b)]]) rfl am ⟨res_of_cell am rfl az Try.underlying109 rfl ti_109, trivial⟩ aD
end Go.Proofs.Yteohbfaechfliaa
