/-
  PRINTED BY PROGRAM: for each function its condition (vc), and that this suffices (ok).
-/
import Derived.Test.YteohbfaechfliaaQSlotsAllGT
namespace Go.Proofs.Yteohbfaechfliaa
open Go.RowKit
set_option linter.unusedVariables false
set_option maxHeartbeats 1000000
set_option maxRecDepth 10000
def ref21_Check.vc (q : Int) (r : Str) (u : Str) (x : Sl) (y : Sl) (z : Int) (aa : Str) (ab : Str) (ad : Sl) (af : Sl) (l : Sl) (R : Value → World → Prop) (w : World) : Prop :=
∀ (aI : World) (al : Nat) (ap : Nat), New w al aI → New w ap aI → al ≠ ap → Chg [] w aI →
CallK Try.prog 28 #[.agg #[.int .i64 q, .string (Bs r), .string (Bs u), Sl.v x, Sl.v y]] aI [al, ap] (fun v aT => ∃ (am : Bool), v = .bool am ∧
∃ (aU : Bool), (((am = true)) → Calls Try.prog 28 #[.agg #[.int .i64 z, .string (Bs aa), .string (Bs ab), Sl.v ad, Sl.v af]] aT (Ret fun v w' => Ext aT w' ∧ v = .bool aU)) ∧
(∀ aA : World, Ext aT aA →
(((am = false) ∨ (aU = false)) →
R (.bool false) aA) ∧
(((am = true) ∧ (aU = true)) →
∀ (av : World), Chg [] aA av →
∃ aB : Sl → World → Prop, (∀ d : Sl, ∀ w' w'' : World, Ext w' w'' → aB d w' → aB d w'') ∧
(∀ w' : World, Ext av w' → Calls Try.prog 11 #[.agg #[.int .i64 q, .string (Bs r), .string (Bs u), Sl.v x, Sl.v y]] w' (Ret fun v w'' => Ext w' w'' ∧ ∃ d : Sl, v = Sl.v d ∧ aB d w'')) ∧
∃ aC : Sl → World → Prop, (∀ f : Sl, ∀ w' w'' : World, Ext w' w'' → aC f w' → aC f w'') ∧
(∀ w' : World, Ext av w' → Calls Try.prog 11 #[.agg #[.int .i64 z, .string (Bs aa), .string (Bs ab), Sl.v ad, Sl.v af]] w' (Ret fun v w'' => Ext w' w'' ∧ ∃ f : Sl, v = Sl.v f ∧ aC f w'')) ∧
∀ (ax : World) (d : Sl) (f : Sl), Ext av ax → aB d ax → aC f ax → 
∃ (aV : Bool → Int → World → Prop) (aY : Bool → Int → World → Nat),
aV false 0 ax ∧
(∀ (o : Bool) (i : Int) (an : World), aV o i an →
((i < (l.n : Int)) →
((0 : Int) ≤ i ∧ i < (l.n : Int)) ∧ ∃ a4 : Addr, l.a = some a4 ∧
∃ (b : Int) (c : Int), (Cells an (a4.add (i.toNat * 2)) [.int .i64 b, .int .i64 c]) ∧
∀ (ah : World) (m : Nat), New an m ah → Chg [] an ah →
((((((¬ (b < 0)) ∧ (¬ ((d.n : Int) ≤ b))) ∧ (¬ (c < 0))) ∧ (¬ ((f.n : Int) ≤ c))) ∧ (0 < i)) → I64 (i - 1)) ∧
∃ aD : Addr, ((((((¬ (b < 0)) ∧ (¬ ((d.n : Int) ≤ b))) ∧ (¬ (c < 0))) ∧ (¬ ((f.n : Int) ≤ c))) ∧ (0 < i)) → ((0 : Int) ≤ i - 1 ∧ i - 1 < (l.n : Int)) ∧ l.a = some aD) ∧
∃ (j : Int), ((((((¬ (b < 0)) ∧ (¬ ((d.n : Int) ≤ b))) ∧ (¬ (c < 0))) ∧ (¬ ((f.n : Int) ≤ c))) ∧ (0 < i)) → ah.cell? ((aD.add ((i - 1).toNat * 2)).add 0) = some (.int .i64 j)) ∧
∃ aF : Addr, (((((((¬ (b < 0)) ∧ (¬ ((d.n : Int) ≤ b))) ∧ (¬ (c < 0))) ∧ (¬ ((f.n : Int) ≤ c))) ∧ ((¬ (0 < i)) ∨ (¬ (b ≤ j))))) → ((0 : Int) ≤ b ∧ b < (d.n : Int)) ∧ d.a = some aF) ∧
∃ (aJ : Int) (aK : Str) (aL : Str) (aM : Sl) (aN : Sl), (((((((¬ (b < 0)) ∧ (¬ ((d.n : Int) ≤ b))) ∧ (¬ (c < 0))) ∧ (¬ ((f.n : Int) ≤ c))) ∧ ((¬ (0 < i)) ∨ (¬ (b ≤ j))))) → Cells ah ((aF.add (b.toNat * 15)).add 5) [.int .i64 aJ, .string (Bs aK), .string (Bs aL), Sl.v aM, Sl.v aN]) ∧
∃ aG : Addr, (((((((¬ (b < 0)) ∧ (¬ ((d.n : Int) ≤ b))) ∧ (¬ (c < 0))) ∧ (¬ ((f.n : Int) ≤ c))) ∧ ((¬ (0 < i)) ∨ (¬ (b ≤ j))))) → ((0 : Int) ≤ c ∧ c < (f.n : Int)) ∧ f.a = some aG) ∧
∃ (aO : Int) (aP : Str) (aQ : Str) (aR : Sl) (aS : Sl), (((((((¬ (b < 0)) ∧ (¬ ((d.n : Int) ≤ b))) ∧ (¬ (c < 0))) ∧ (¬ ((f.n : Int) ≤ c))) ∧ ((¬ (0 < i)) ∨ (¬ (b ≤ j))))) → Cells ah ((aG.add (c.toNat * 15)).add 5) [.int .i64 aO, .string (Bs aP), .string (Bs aQ), Sl.v aR, Sl.v aS]) ∧
∃ (ai : Bool), (((((((¬ (b < 0)) ∧ (¬ ((d.n : Int) ≤ b))) ∧ (¬ (c < 0))) ∧ (¬ ((f.n : Int) ≤ c))) ∧ ((¬ (0 < i)) ∨ (¬ (b ≤ j))))) → ∀ w' : World, Ext ah w' → Calls Try.prog 58 #[.agg #[.int .i64 aJ, .string (Bs aK), .string (Bs aL), Sl.v aM, Sl.v aN], .agg #[.int .i64 aO, .string (Bs aP), .string (Bs aQ), Sl.v aR, Sl.v aS]] w' (Ret fun v w'' => Ext w' w'' ∧ v = .bool ai)) ∧
(((((((b < 0) ∨ ((d.n : Int) ≤ b)) ∨ (c < 0)) ∨ ((f.n : Int) ≤ c)) ∨ ((0 < i) ∧ (b ≤ j))) ∨ (ai = false)) →
∀ (ao : World), Chg [] ah ao →
R (.bool false) ao) ∧
(((((((¬ (b < 0)) ∧ (¬ ((d.n : Int) ≤ b))) ∧ (¬ (c < 0))) ∧ (¬ ((f.n : Int) ≤ c))) ∧ ((¬ (0 < i)) ∨ (¬ (b ≤ j)))) ∧ (ai = true)) →
∀ (ao : World), Chg [] ah ao →
∃ (aX : Int → World → Prop) (aZ : Int → World → Nat),
aX 0 ao ∧
(∀ (p : Int) (aq : World), aX p aq →
((p < i) →
∀ (ay : World), Chg [] aq ay →
∃ aH : Addr, (((0 : Int) ≤ p ∧ p < (l.n : Int)) ∧ l.a = some aH) ∧
∃ (ar : Int), (ay.cell? ((aH.add (p.toNat * 2)).add 1) = some (.int .i64 ar)) ∧
((ar = c) →
∀ (aj : World), Chg [] ay aj →
R (.bool false) aj) ∧
((¬ (ar = c)) →
(I64 (p + 1)) ∧
∀ (aj : World), Chg [] ay aj →
aX (p + 1) aj ∧ aZ (p + 1) aj < aZ p aq)) ∧
((¬ (p < i)) →
(I64 (i + 1)) ∧
aV (o || (decide (b = 0 ∧ c = 0))) (i + 1) aq ∧ aY (o || (decide (b = 0 ∧ c = 0))) (i + 1) aq < aY o i an)))) ∧
((¬ (i < (l.n : Int))) →
R (.bool o) an)))))
theorem ref21_Check.ok (q : Int) (r : Str) (u : Str) (x : Sl) (y : Sl) (z : Int) (aa : Str) (ab : Str) (ad : Sl) (af : Sl) (l : Sl) {R : Value → World → Prop} {w : World} (bi : ref21_Check.vc q r u x y z aa ab ad af l R w) : Calls Try.prog 44 #[.agg #[.int .i64 q, .string (Bs r), .string (Bs u), Sl.v x, Sl.v y], .agg #[.int .i64 z, .string (Bs aa), .string (Bs ab), Sl.v ad, Sl.v af], Sl.v l] w (Ret R) := by
 refine enter [.agg #[.int .i64 q, .string (Bs r), .string (Bs u), Sl.v x, Sl.v y], .agg #[.int .i64 z, .string (Bs aa), .string (Bs ab), Sl.v ad, Sl.v af], Sl.v l] Try.func44 rfl Try.ntmps44 rfl ?_
 intro a0 bj
 unfold ref21_Check.vc at bi
 refine wp_seq (wp_region_lit ?_)
 refine sq (opk_new (fun B => .pointer (some ⟨B, 0, none⟩)) bj rfl (r_box (cs := [.int .i64 q, .string (Bs r), .string (Bs u), Sl.v x, Sl.v y]) (bj.get rfl) rfl) fun a6 w5 al cr ct bl bm _ => ?_)
 have cu : New w al w5 := ct
 have bn : Chg [] w w5 := cr
 refine sq (opk_new (fun B => .pointer (some ⟨B, 0, none⟩)) bm rfl (r_box (cs := [.int .i64 z, .string (Bs aa), .string (Bs ab), Sl.v ad, Sl.v af]) (bm.get rfl) rfl) fun fL aI ap a5 bo cv cx _ => ?_)
 have cy : al ≠ ap := Nat.ne_of_lt (Nat.lt_of_lt_of_le bl.lt bo.ge)
 have cz := New.of bn bo
 have bp := bl.ext a5
 have cA := bn.more a5
 have cB := cu.up a5.size
 refine sqv cx rfl (r_assign rfl) fun _ cC => sq_end ?_
 have bq := cC.kp [(2, Sl.v l), (3, pB al 0), (4, pB ap 0)] rfl
 refine then_normal (wp_seq (wp_seq (wp_region_lit ?_)))
 refine sqv bq rfl (r_loadN (cs := [.int .i64 q, .string (Bs r), .string (Bs u), Sl.v x, Sl.v y]) Try.underlying26 rfl ti_26 (bq.get rfl) (bp.part 0 _ rfl)) fun _ br => ?_
 have cD := bi aI al ap cB cz cy cA
 refine sq (opk_call br rfl (r_call (args := #[.agg #[.int .i64 q, .string (Bs r), .string (Bs u), Sl.v x, Sl.v y]]) Try.func28 (by decide) rfl (map_arr (ml_cons (br.get rfl) ml_nil)) rfl) cD fun fM fN aT bs _ bt fO cF => ?_)
 obtain ⟨am, rfl, cG⟩ := cF
 have cH := bp.kept bt (.head _)
 have bu := cv.kept bt (.tail _ (.head _))
 refine sqv bs rfl (r_not (bs.get rfl)) fun _ bv => sqv bv rfl (r_move (bv.get rfl)) fun _ bx => ?_
 refine sq (opk_gval bx rfl rfl (g := true) (e := (!am)) rfl (fun hg => r_loadN (cs := [.int .i64 z, .string (Bs aa), .string (Bs ab), Sl.v ad, Sl.v af]) Try.underlying26 rfl ti_26 (bx.get rfl) (bu.part 0 _ rfl)) fun fP bz _ => ?_)
 obtain ⟨aU, cI, cJ⟩ := cG
 refine sq (opk_gcall bz rfl rfl (g := true) (e := (!am)) rfl (fun hg => r_call (args := #[.agg #[.int .i64 z, .string (Bs aa), .string (Bs ab), Sl.v ad, Sl.v af]]) Try.func28 (by decide) rfl (map_arr (ml_cons (cv_get (bz.get rfl) hg) ml_nil)) rfl) (fun hg => cI (b_not_f (g_f hg))) fun fQ aA bA _ hE45 => ?_)
 have cK := cH.ext hE45
 have cL := bu.ext hE45
 have fR : Chg [] aT aA := hE45
 have bB := cJ aA hE45
 refine sq (opk_gval bA rfl rfl (g := true) (e := (!am)) rfl (fun hg => r_not (cv_get (bA.get rfl) hg)) fun fS hA50 _ => ?_)
 refine sqv hA50 rfl (r_pick_or (g := (true && ((!am) == false))) (hA50.get rfl) (hA50.get rfl) (fun he => g_mkf rfl he)) fun _ cM => sq_end ?_
 have au := cM.kp [(2, Sl.v l), (3, pB al 0), (4, pB ap 0), (20, .bool ((!am) || (!aU)))] rfl
 refine then_normal ?_
 refine wp_cond_split (au.get rfl) (fun hc => ?_) (fun hc => ?_)
 ·have cN := bB.1 ((b_or_t hc).imp (fun h => (b_not_t h)) (fun h => (b_not_t h)))
  clear hc
  refine wp_seq (wp_region_lit ?_)
  refine sqv au rfl (r_assign rfl) fun _ cO => sq_end ?_
  have bC := cO.kp [(6, .bool false)] rfl
  refine then_normal ?_
  refine wp_ret ?_
  refine then_ret ?_
  exact res_all (vs := [.bool false]) rfl bC ⟨res_of_tmp bC rfl, trivial⟩ cN
 ·have cP := bB.2 ⟨(b_not_f (b_or_f hc).1), (b_not_f (b_or_f hc).2)⟩
  clear hc
  refine wp_skip ?_
  refine then_normal (wp_seq ?_)
  refine draw' (by kernel_rfl) fun av a7 => ?_
  have bD := cK.ext a7
  have bF := cL.ext a7
  have cQ : Chg [] aA av := a7
  have cR := cP av    cQ
  obtain ⟨aB, bG, cS, cT⟩ := cR
  obtain ⟨aC, bH, cU, cX⟩ := cT
  refine par (D := [[], [0], [], [0, 1, 2], [0, 1, 2, 3], [0, 1, 2, 3, 4]]) (S := [0, 1, 2, 3, 4, 5]) (F := []) (V := VL [(0, fun v _ => v = .agg #[.int .i64 q, .string (Bs r), .string (Bs u), Sl.v x, Sl.v y]), (1, fun v w' => ∃ d : Sl, aB d w' ∧ v = Sl.v d), (2, fun v _ => v = .agg #[.int .i64 z, .string (Bs aa), .string (Bs ab), Sl.v ad, Sl.v af]), (3, fun v w' => ∃ f : Sl, aC f w' ∧ v = Sl.v f), (4, fun v w' => ∃ d : Sl, aB d w' ∧ v = Sl.v d), (5, fun v w' => ∃ f : Sl, aC f w' ∧ v = Sl.v f)]) au (by kernel_rfl) ⟨fun _ _ _ _ h => by first | exact h | (change _ = _ at h; change _ = _; exact h), fun _ _ _ hE ⟨d, h0_, e⟩ => ⟨d, (bG d _ _ hE h0_), e⟩, fun _ _ _ _ h => by first | exact h | (change _ = _ at h; change _ = _; exact h), fun _ _ _ hE ⟨f, h0_, e⟩ => ⟨f, (bH f _ _ hE h0_), e⟩, fun _ _ _ hE ⟨d, h0_, e⟩ => ⟨d, (bG d _ _ hE h0_), e⟩, fun _ _ _ hE ⟨f, h0_, e⟩ => ⟨f, (bH f _ _ hE h0_), e⟩, trivial⟩ ⟨?_, ?_, ?_, ?_, ?_, ?_, trivial⟩ ?_
  ·intro a w hT
   have hAp := hT.ag au [(3, pB al 0)] ⟨rfl, trivial⟩ (by kernel_rfl)
   exact ovr hAp rfl (r_loadN (cs := [.int .i64 q, .string (Bs r), .string (Bs u), Sl.v x, Sl.v y]) Try.underlying26 rfl ti_26 (hAp.get rfl) ((bD.ext hT.chg).part 0 _ rfl)) fun _ => Eq.refl _
  ·intro a w hT
   have hAp := hT.ag au [] trivial (by kernel_rfl)
   have hAp := hAp.add (t := 21) (v := .agg #[.int .i64 q, .string (Bs r), .string (Bs u), Sl.v x, Sl.v y]) (hT.vals 0 rfl 21 rfl)
   exact opk_callX hAp rfl (r_call (args := #[.agg #[.int .i64 q, .string (Bs r), .string (Bs u), Sl.v x, Sl.v y]]) Try.func11 (by decide) rfl (map_arr (ml_cons (hAp.get rfl) ml_nil)) rfl) (cS w hT.chg) fun _ _ _ _ e ⟨hE, d, he, hV⟩ => ⟨_, e, hE, fun _ => ⟨d, hV, he⟩⟩
  ·intro a w hT
   have hAp := hT.ag au [(4, pB ap 0)] ⟨rfl, trivial⟩ (by kernel_rfl)
   exact ovr hAp rfl (r_loadN (cs := [.int .i64 z, .string (Bs aa), .string (Bs ab), Sl.v ad, Sl.v af]) Try.underlying26 rfl ti_26 (hAp.get rfl) ((bF.ext hT.chg).part 0 _ rfl)) fun _ => Eq.refl _
  ·intro a w hT
   have hAp := hT.ag au [] trivial (by kernel_rfl)
   have hAp := hAp.add (t := 23) (v := .agg #[.int .i64 z, .string (Bs aa), .string (Bs ab), Sl.v ad, Sl.v af]) (hT.vals 2 rfl 23 rfl)
   exact opk_callX hAp rfl (r_call (args := #[.agg #[.int .i64 z, .string (Bs aa), .string (Bs ab), Sl.v ad, Sl.v af]]) Try.func11 (by decide) rfl (map_arr (ml_cons (hAp.get rfl) ml_nil)) rfl) (cU w hT.chg) fun _ _ _ _ e ⟨hE, f, he, hV⟩ => ⟨_, e, hE, fun _ => ⟨f, hV, he⟩⟩
  ·intro a w hT
   have hAp := hT.ag au [] trivial (by kernel_rfl)
   obtain ⟨d, cY, cZ⟩ := hT.vals 1 rfl 22 rfl
   have hAp := hAp.add cZ
   exact opk_val hAp rfl (r_assign (hAp.get rfl)) fun _ _ e => ⟨_, e, Chg.refl _ _, fun _ => ⟨d, cY, rfl⟩⟩
  ·intro a w hT
   have hAp := hT.ag au [] trivial (by kernel_rfl)
   obtain ⟨f, c0, c1⟩ := hT.vals 3 rfl 24 rfl
   have hAp := hAp.add c1
   exact opk_val hAp rfl (r_assign (hAp.get rfl)) fun _ _ e => ⟨_, e, Chg.refl _ _, fun _ => ⟨f, c0, rfl⟩⟩
  ·intro fT ax a1 c2 bI
   have c3 := c2 [(2, Sl.v l)] ⟨rfl, trivial⟩ (by kernel_rfl)
   obtain ⟨d, c4, c5⟩ := bI 4 rfl 7 rfl
   have c6 := c3.add c5
   obtain ⟨f, c7, c8⟩ := bI 5 rfl 8 rfl
   have c9 := c6.add c8
   have fU := bD.ext a1
   have fV := bF.ext a1
   have fX : Chg [] av ax := a1
   have da := cX ax d f a1 c4 c7
   refine PR_end (by kernel_rfl) ?_
   have db := c9.kp [(2, Sl.v l), (7, Sl.v d), (8, Sl.v f)] rfl
   refine then_normal (wp_seq (wp_region_lit ?_))
   refine sqv db rfl (r_assign rfl) fun _ dc => sq_end ?_
   have dd := dc.kp [(2, Sl.v l), (7, Sl.v d), (8, Sl.v f), (9, .bool false)] rfl
   refine then_normal (wp_seq (wp_seq (wp_region_lit ?_)))
   refine sqv dd rfl (r_assign rfl) fun _ df => sq_end ?_
   have dg := df.kp [(2, Sl.v l), (7, Sl.v d), (8, Sl.v f), (9, .bool false), (10, .int .i64 0)] rfl
   refine then_normal (wp_block ?_)
   obtain ⟨aV, aY, dh, di⟩ := da
   refine wp_loop_st (σ := Bool × Int × World) (fun s a w => Ag 108 a [(2, Sl.v l), (7, Sl.v d), (8, Sl.v f), (9, .bool s.1), (10, .int .i64 s.2.1)] ∧ w = s.2.2 ∧ aV s.1 s.2.1 s.2.2) (fun s => aY s.1 s.2.1 s.2.2) (false, 0, ax) ⟨dg.kp [(2, Sl.v l), (7, Sl.v d), (8, Sl.v f), (9, .bool false), (10, .int .i64 0)] rfl, rfl, dh⟩ ?_
   rintro ⟨o, i, an⟩ fY w_ ⟨bJ, hw_, dj⟩
   have hw_ : an = w_ := hw_.symm
   subst hw_
   have bK := di o i _ dj
   refine wp_seq (wp_seq (wp_region_lit ?_))
   refine sqv bJ rfl (r_move (bJ.get rfl)) fun _ bL => sqv bL rfl (r_move (bL.get rfl)) fun _ bM => sqv bM rfl (r_len (bM.get rfl) tU29) fun _ a8 => sqv a8 rfl (r_lss (a8.get rfl) (a8.get rfl)) fun _ dk => sq_end ?_
   have a2 := dk.kp [(2, Sl.v l), (7, Sl.v d), (8, Sl.v f), (9, .bool o), (10, .int .i64 i), (28, .bool (decide (i < (l.n : Int))))] rfl
   refine then_normal ?_
   refine wp_cond_split (a2.get rfl) (fun hc => ?_) (fun hc => ?_)
   ·have dl := bK.1 (of_decide_eq_true hc)
    clear hc
    refine wp_skip ?_
    refine then_normal (wp_seq (wp_block (wp_seq (wp_region_lit ?_))))
    refine sqv a2 rfl (r_move (a2.get rfl)) fun _ bN => sqv bN rfl (r_move (bN.get rfl)) fun _ a9 => ?_
    obtain ⟨dm, a4, dn, dp⟩ := dl
    refine sqv a9 rfl (r_indexAddr (a9.get rfl) (a9.get rfl) tU29 ti_40 dm dn) fun _ bO => ?_
    obtain ⟨b, c, dq, dr⟩ := dp
    refine sqv bO rfl (r_loadN Try.underlying40 rfl ti_40 (bO.get rfl) dq) fun _ ds => ?_
    refine sq (opk_new (fun B => .pointer (some ⟨B, 0, none⟩)) ds rfl (r_alloc (cs := [.int .i64 0, .int .i64 0]) ti_40 rfl) fun fZ bP m dt du bQ ba _ => ?_)
    have bR : New an m bP := du
    have dv : Chg [] an bP := dt
    refine sq (opk_store ba bQ (r_store (vs := [.int .i64 b, .int .i64 c]) (ba.get rfl) (ba.get rfl) rfl ti_40 bQ rfl (ones_all _ rfl)) fun f0 dx bS dy dz => ?_)
    have dA : Box dx m 40 [.int .i64 b, .int .i64 c] := dy
    have dB := dv.storeNew bR bS
    have dC := bR.up bS.size
    refine sq_end ?_
    have k := dz.kp [(2, Sl.v l), (7, Sl.v d), (8, Sl.v f), (9, .bool o), (10, .int .i64 i), (11, pB m 0)] rfl
    refine then_normal (wp_seq (wp_seq ?_))
    refine draw' (by kernel_rfl) fun ah bb => ?_
    have az := dA.ext bb
    have dD := dB.more bb
    have dF := dC.up bb.size
    have dG := dr ah m dF  dD
    obtain ⟨dH, dI⟩ := dG
    obtain ⟨aD, bT, dJ⟩ := dI
    obtain ⟨j, dK, dL⟩ := dJ
    obtain ⟨aF, bU, dM⟩ := dL
    obtain ⟨aJ, aK, aL, aM, aN, dN, dO⟩ := dM
    obtain ⟨aG, bV, dP⟩ := dO
    obtain ⟨aO, aP, aQ, aR, aS, dQ, dR⟩ := dP
    obtain ⟨ai, dS, bX⟩ := dR
    refine par (D := [[], [0], [0, 1], [0, 1, 2], [0, 1, 2, 3], [0, 1, 2, 3, 4], [0, 1, 2, 3], [0, 1, 2, 3, 6], [0, 1, 2, 3, 4, 5, 6, 7], [0, 1, 2, 3, 4, 5, 6, 7, 8], [0, 1, 2, 3, 4, 5, 6, 7, 8, 9], [0, 1, 2, 3, 4, 5, 6, 7, 8, 9, 10], [0, 1, 2, 3, 4, 5, 6, 7, 8, 9, 10, 11], [0, 1, 2, 3, 4, 5, 6, 7, 8, 9, 10, 11, 12], [0, 1, 2, 3, 4, 5, 6, 7, 8, 9, 10, 11, 12, 13], [0, 1, 2, 3, 4, 5, 6, 7, 8, 9, 10, 11, 12, 13, 14], [0, 1, 2, 3, 4, 5, 6, 7, 8, 9, 10, 11, 12, 13, 14, 15], [0, 1, 2, 3, 4, 5, 6, 7, 8, 9, 10, 11, 12, 13, 14, 15, 16], [0, 1, 2, 3, 4, 5, 6, 7, 8, 9, 10, 11, 12, 13, 14, 15], [0, 1, 2, 3, 4, 5, 6, 7, 8, 9, 10, 11, 12, 13, 14, 15, 18], [0, 1, 2, 3, 4, 5, 6, 7, 8, 9, 10, 11, 12, 13, 14, 15, 16, 17, 18, 19], [0, 1, 2, 3, 4, 5, 6, 7, 8, 9, 10, 11, 12, 13, 14, 15, 16, 17, 18, 19, 20], [0, 1, 2, 3, 4, 5, 6, 7, 8, 9, 10, 11, 12, 13, 14, 15, 16, 17, 18, 19, 20, 21], [0, 1, 2, 3, 4, 5, 6, 7, 8, 9, 10, 11, 12, 13, 14, 15, 16, 17, 18, 19, 20, 21, 22], [0, 1, 2, 3, 4, 5, 6, 7, 8, 9, 10, 11, 12, 13, 14, 15, 16, 17, 18, 19, 20, 21, 22, 23], [0, 1, 2, 3, 4, 5, 6, 7, 8, 9, 10, 11, 12, 13, 14, 15, 16, 17, 18, 19, 20, 21, 22, 23, 24], [0, 1, 2, 3, 4, 5, 6, 7, 8, 9, 10, 11, 12, 13, 14, 15, 16, 17, 18, 19, 20, 21, 22, 23, 24, 25], [0, 1, 2, 3, 4, 5, 6, 7, 8, 9, 10, 11, 12, 13, 14, 15, 16, 17, 18, 19, 20, 21, 22, 23, 24, 25, 26], [0, 1, 2, 3, 4, 5, 6, 7, 8, 9, 10, 11, 12, 13, 14, 15, 16, 17, 18, 19, 20, 21, 22, 23, 24, 25], [0, 1, 2, 3, 4, 5, 6, 7, 8, 9, 10, 11, 12, 13, 14, 15, 16, 17, 18, 19, 20, 21, 22, 23, 24, 25], [0, 1, 2, 3, 4, 5, 6, 7, 8, 9, 10, 11, 12, 13, 14, 15, 16, 17, 18, 19, 20, 21, 22, 23, 24, 25, 29], [0, 1, 2, 3, 4, 5, 6, 7, 8, 9, 10, 11, 12, 13, 14, 15, 16, 17, 18, 19, 20, 21, 22, 23, 24, 25, 28, 29, 30], [0, 1, 2, 3, 4, 5, 6, 7, 8, 9, 10, 11, 12, 13, 14, 15, 16, 17, 18, 19, 20, 21, 22, 23, 24, 25, 28, 29, 30, 31], [0, 1, 2, 3, 4, 5, 6, 7, 8, 9, 10, 11, 12, 13, 14, 15, 16, 17, 18, 19, 20, 21, 22, 23, 24, 25, 28, 29, 30, 31, 32], [0, 1, 2, 3, 4, 5, 6, 7, 8, 9, 10, 11, 12, 13, 14, 15, 16, 17, 18, 19, 20, 21, 22, 23, 24, 25, 26, 27, 28, 29, 30, 31, 32, 33], [0, 1, 2, 3, 4, 5, 6, 7, 8, 9, 10, 11, 12, 13, 14, 15, 16, 17, 18, 19, 20, 21, 22, 23, 24, 25, 26, 27, 28, 29, 30, 31, 32, 33, 34], [0, 1, 2, 3, 4, 5, 6, 7, 8, 9, 10, 11, 12, 13, 14, 15, 16, 17, 18, 19, 20, 21, 22, 23, 24, 25, 26, 27, 28, 29, 30, 31, 32, 33, 34, 35], [0, 1, 2, 3, 4, 5, 6, 7, 8, 9, 10, 11, 12, 13, 14, 15, 16, 17, 18, 19, 20, 21, 22, 23, 24, 25, 26, 27, 28, 29, 30, 31, 32, 33, 34, 35, 36], [0, 1, 2, 3, 4, 5, 6, 7, 8, 9, 10, 11, 12, 13, 14, 15, 16, 17, 18, 19, 20, 21, 22, 23, 24, 25, 26, 27, 28, 29, 30, 31, 32, 33, 34, 35, 36, 37], [0, 1, 2, 3, 4, 5, 6, 7, 8, 9, 10, 11, 12, 13, 14, 15, 16, 17, 18, 19, 20, 21, 22, 23, 24, 25, 26, 27, 28, 29, 30, 31, 32, 33, 34, 35, 36, 37], [0, 1, 2, 3, 4, 5, 6, 7, 8, 9, 10, 11, 12, 13, 14, 15, 16, 17, 18, 19, 20, 21, 22, 23, 24, 25, 26, 27, 28, 29, 30, 31, 32, 33, 34, 35, 36, 37, 39], [0, 1, 2, 3, 4, 5, 6, 7, 8, 9, 10, 11, 12, 13, 14, 15, 16, 17, 18, 19, 20, 21, 22, 23, 24, 25, 26, 27, 28, 29, 30, 31, 32, 33, 34, 35, 36, 37, 38, 39, 40], [0, 1, 2, 3, 4, 5, 6, 7, 8, 9, 10, 11, 12, 13, 14, 15, 16, 17, 18, 19, 20, 21, 22, 23, 24, 25, 26, 27, 28, 29, 30, 31, 32, 33, 34, 35, 36, 37, 38, 39, 40, 41], [0, 1, 2, 3, 4, 5, 6, 7, 8, 9, 10, 11, 12, 13, 14, 15, 16, 17, 18, 19, 20, 21, 22, 23, 24, 25, 26, 27, 28, 29, 30, 31, 32, 33, 34, 35, 36, 37, 38, 39, 40, 41, 42], [0, 1, 2, 3, 4, 5, 6, 7, 8, 9, 10, 11, 12, 13, 14, 15, 16, 17, 18, 19, 20, 21, 22, 23, 24, 25, 26, 27, 28, 29, 30, 31, 32, 33, 34, 35, 36, 37], [0, 1, 2, 3, 4, 5, 6, 7, 8, 9, 10, 11, 12, 13, 14, 15, 16, 17, 18, 19, 20, 21, 22, 23, 24, 25, 26, 27, 28, 29, 30, 31, 32, 33, 34, 35, 36, 37], [0, 1, 2, 3, 4, 5, 6, 7, 8, 9, 10, 11, 12, 13, 14, 15, 16, 17, 18, 19, 20, 21, 22, 23, 24, 25, 26, 27, 28, 29, 30, 31, 32, 33, 34, 35, 36, 37, 45], [0, 1, 2, 3, 4, 5, 6, 7, 8, 9, 10, 11, 12, 13, 14, 15, 16, 17, 18, 19, 20, 21, 22, 23, 24, 25, 26, 27, 28, 29, 30, 31, 32, 33, 34, 35, 36, 37, 44, 45, 46], [0, 1, 2, 3, 4, 5, 6, 7, 8, 9, 10, 11, 12, 13, 14, 15, 16, 17, 18, 19, 20, 21, 22, 23, 24, 25, 26, 27, 28, 29, 30, 31, 32, 33, 34, 35, 36, 37, 44, 45, 46, 47], [0, 1, 2, 3, 4, 5, 6, 7, 8, 9, 10, 11, 12, 13, 14, 15, 16, 17, 18, 19, 20, 21, 22, 23, 24, 25, 26, 27, 28, 29, 30, 31, 32, 33, 34, 35, 36, 37, 44, 45, 46, 47, 48], [0, 1, 2, 3, 4, 5, 6, 7, 8, 9, 10, 11, 12, 13, 14, 15, 16, 17, 18, 19, 20, 21, 22, 23, 24, 25, 26, 27, 28, 29, 30, 31, 32, 33, 34, 35, 36, 37, 38, 39, 40, 41, 42, 43, 44, 45, 46, 47, 48, 49], [0, 1, 2, 3, 4, 5, 6, 7, 8, 9, 10, 11, 12, 13, 14, 15, 16, 17, 18, 19, 20, 21, 22, 23, 24, 25, 26, 27, 28, 29, 30, 31, 32, 33, 34, 35, 36, 37, 38, 39, 40, 41, 42, 43, 44, 45, 46, 47, 48, 49, 50], [0, 1, 2, 3, 4, 5, 6, 7, 8, 9, 10, 11, 12, 13, 14, 15, 16, 17, 18, 19, 20, 21, 22, 23, 24, 25, 26, 27, 28, 29, 30, 31, 32, 33, 34, 35, 36, 37, 38, 39, 40, 41, 42, 43, 44, 45, 46, 47, 48, 49, 50, 51]]) (S := [0, 1, 2, 3, 4, 5, 6, 7, 8, 9, 10, 11, 12, 13, 14, 15, 16, 17, 18, 19, 20, 21, 22, 23, 24, 25, 26, 27, 28, 29, 30, 31, 32, 33, 34, 35, 36, 37, 38, 39, 40, 41, 42, 43, 44, 45, 46, 47, 48, 49, 50, 51, 52]) (F := []) (V := VL [(0, fun v _ => v = pB m 0), (1, fun v _ => v = .int .i64 b), (2, fun v _ => v = .bool (decide (b < 0))), (3, fun v _ => v = .bool (decide (b < 0))), (4, fun v _ => v = cV (true && ((decide (b < 0)) == false)) (pB m 0)), (5, fun v _ => v = cV (true && ((decide (b < 0)) == false)) (.int .i64 b)), (6, fun v _ => v = cV (true && ((decide (b < 0)) == false)) (Sl.v d)), (7, fun v _ => v = cV (true && ((decide (b < 0)) == false)) (.int .i64 (d.n : Int))), (8, fun v _ => v = cV (true && ((decide (b < 0)) == false)) (.bool (decide ((d.n : Int) ≤ b)))), (9, fun v _ => v = .bool ((decide (b < 0)) || (decide ((d.n : Int) ≤ b)))), (10, fun v _ => v = .bool ((decide (b < 0)) || (decide ((d.n : Int) ≤ b)))), (11, fun v _ => v = cV (true && (((decide (b < 0)) || (decide ((d.n : Int) ≤ b))) == false)) (pB m 1)), (12, fun v _ => v = cV (true && (((decide (b < 0)) || (decide ((d.n : Int) ≤ b))) == false)) (.int .i64 c)), (13, fun v _ => v = cV (true && (((decide (b < 0)) || (decide ((d.n : Int) ≤ b))) == false)) (.bool (decide (c < 0)))), (14, fun v _ => v = .bool (((decide (b < 0)) || (decide ((d.n : Int) ≤ b))) || (decide (c < 0)))), (15, fun v _ => v = .bool (((decide (b < 0)) || (decide ((d.n : Int) ≤ b))) || (decide (c < 0)))), (16, fun v _ => v = cV (true && ((((decide (b < 0)) || (decide ((d.n : Int) ≤ b))) || (decide (c < 0))) == false)) (pB m 1)), (17, fun v _ => v = cV (true && ((((decide (b < 0)) || (decide ((d.n : Int) ≤ b))) || (decide (c < 0))) == false)) (.int .i64 c)), (18, fun v _ => v = cV (true && ((((decide (b < 0)) || (decide ((d.n : Int) ≤ b))) || (decide (c < 0))) == false)) (Sl.v f)), (19, fun v _ => v = cV (true && ((((decide (b < 0)) || (decide ((d.n : Int) ≤ b))) || (decide (c < 0))) == false)) (.int .i64 (f.n : Int))), (20, fun v _ => v = cV (true && ((((decide (b < 0)) || (decide ((d.n : Int) ≤ b))) || (decide (c < 0))) == false)) (.bool (decide ((f.n : Int) ≤ c)))), (21, fun v _ => v = .bool ((((decide (b < 0)) || (decide ((d.n : Int) ≤ b))) || (decide (c < 0))) || (decide ((f.n : Int) ≤ c)))), (22, fun v _ => v = .bool ((((decide (b < 0)) || (decide ((d.n : Int) ≤ b))) || (decide (c < 0))) || (decide ((f.n : Int) ≤ c)))), (23, fun v _ => v = cV (true && (((((decide (b < 0)) || (decide ((d.n : Int) ≤ b))) || (decide (c < 0))) || (decide ((f.n : Int) ≤ c))) == false)) (.int .i64 i)), (24, fun v _ => v = cV (true && (((((decide (b < 0)) || (decide ((d.n : Int) ≤ b))) || (decide (c < 0))) || (decide ((f.n : Int) ≤ c))) == false)) (.bool (decide (0 < i)))), (25, fun v _ => v = cV (true && (((((decide (b < 0)) || (decide ((d.n : Int) ≤ b))) || (decide (c < 0))) || (decide ((f.n : Int) ≤ c))) == false)) (.bool (decide (0 < i)))), (26, fun v _ => v = cV ((true && (((((decide (b < 0)) || (decide ((d.n : Int) ≤ b))) || (decide (c < 0))) || (decide ((f.n : Int) ≤ c))) == false)) && ((decide (0 < i)) == true)) (pB m 0)), (27, fun v _ => v = cV ((true && (((((decide (b < 0)) || (decide ((d.n : Int) ≤ b))) || (decide (c < 0))) || (decide ((f.n : Int) ≤ c))) == false)) && ((decide (0 < i)) == true)) (.int .i64 b)), (28, fun v _ => v = cV ((true && (((((decide (b < 0)) || (decide ((d.n : Int) ≤ b))) || (decide (c < 0))) || (decide ((f.n : Int) ≤ c))) == false)) && ((decide (0 < i)) == true)) (Sl.v l)), (29, fun v _ => v = cV ((true && (((((decide (b < 0)) || (decide ((d.n : Int) ≤ b))) || (decide (c < 0))) || (decide ((f.n : Int) ≤ c))) == false)) && ((decide (0 < i)) == true)) (.int .i64 i)), (30, fun v _ => v = cV ((true && (((((decide (b < 0)) || (decide ((d.n : Int) ≤ b))) || (decide (c < 0))) || (decide ((f.n : Int) ≤ c))) == false)) && ((decide (0 < i)) == true)) (.int .i64 (i - 1))), (31, fun v _ => v = cV ((true && (((((decide (b < 0)) || (decide ((d.n : Int) ≤ b))) || (decide (c < 0))) || (decide ((f.n : Int) ≤ c))) == false)) && ((decide (0 < i)) == true)) (.pointer (some (aD.add ((i - 1).toNat * 2))))), (32, fun v _ => v = cV ((true && (((((decide (b < 0)) || (decide ((d.n : Int) ≤ b))) || (decide (c < 0))) || (decide ((f.n : Int) ≤ c))) == false)) && ((decide (0 < i)) == true)) (.pointer (some ((aD.add ((i - 1).toNat * 2)).add 0)))), (33, fun v _ => v = cV ((true && (((((decide (b < 0)) || (decide ((d.n : Int) ≤ b))) || (decide (c < 0))) || (decide ((f.n : Int) ≤ c))) == false)) && ((decide (0 < i)) == true)) (.int .i64 j)), (34, fun v _ => v = cV ((true && (((((decide (b < 0)) || (decide ((d.n : Int) ≤ b))) || (decide (c < 0))) || (decide ((f.n : Int) ≤ c))) == false)) && ((decide (0 < i)) == true)) (.bool (decide (b ≤ j)))), (35, fun v _ => v = cV (true && (((((decide (b < 0)) || (decide ((d.n : Int) ≤ b))) || (decide (c < 0))) || (decide ((f.n : Int) ≤ c))) == false)) (.bool ((decide (0 < i)) && (decide (b ≤ j))))), (36, fun v _ => v = .bool (((((decide (b < 0)) || (decide ((d.n : Int) ≤ b))) || (decide (c < 0))) || (decide ((f.n : Int) ≤ c))) || ((decide (0 < i)) && (decide (b ≤ j))))), (37, fun v _ => v = .bool (((((decide (b < 0)) || (decide ((d.n : Int) ≤ b))) || (decide (c < 0))) || (decide ((f.n : Int) ≤ c))) || ((decide (0 < i)) && (decide (b ≤ j))))), (38, fun v _ => v = cV (true && ((((((decide (b < 0)) || (decide ((d.n : Int) ≤ b))) || (decide (c < 0))) || (decide ((f.n : Int) ≤ c))) || ((decide (0 < i)) && (decide (b ≤ j)))) == false)) (Sl.v d)), (39, fun v _ => v = cV (true && ((((((decide (b < 0)) || (decide ((d.n : Int) ≤ b))) || (decide (c < 0))) || (decide ((f.n : Int) ≤ c))) || ((decide (0 < i)) && (decide (b ≤ j)))) == false)) (pB m 0)), (40, fun v _ => v = cV (true && ((((((decide (b < 0)) || (decide ((d.n : Int) ≤ b))) || (decide (c < 0))) || (decide ((f.n : Int) ≤ c))) || ((decide (0 < i)) && (decide (b ≤ j)))) == false)) (.int .i64 b)), (41, fun v _ => v = cV (true && ((((((decide (b < 0)) || (decide ((d.n : Int) ≤ b))) || (decide (c < 0))) || (decide ((f.n : Int) ≤ c))) || ((decide (0 < i)) && (decide (b ≤ j)))) == false)) (.pointer (some (aF.add (b.toNat * 15))))), (42, fun v _ => v = cV (true && ((((((decide (b < 0)) || (decide ((d.n : Int) ≤ b))) || (decide (c < 0))) || (decide ((f.n : Int) ≤ c))) || ((decide (0 < i)) && (decide (b ≤ j)))) == false)) (.pointer (some ((aF.add (b.toNat * 15)).add 5)))), (43, fun v _ => v = cV (true && ((((((decide (b < 0)) || (decide ((d.n : Int) ≤ b))) || (decide (c < 0))) || (decide ((f.n : Int) ≤ c))) || ((decide (0 < i)) && (decide (b ≤ j)))) == false)) (.agg #[.int .i64 aJ, .string (Bs aK), .string (Bs aL), Sl.v aM, Sl.v aN])), (44, fun v _ => v = cV (true && ((((((decide (b < 0)) || (decide ((d.n : Int) ≤ b))) || (decide (c < 0))) || (decide ((f.n : Int) ≤ c))) || ((decide (0 < i)) && (decide (b ≤ j)))) == false)) (Sl.v f)), (45, fun v _ => v = cV (true && ((((((decide (b < 0)) || (decide ((d.n : Int) ≤ b))) || (decide (c < 0))) || (decide ((f.n : Int) ≤ c))) || ((decide (0 < i)) && (decide (b ≤ j)))) == false)) (pB m 1)), (46, fun v _ => v = cV (true && ((((((decide (b < 0)) || (decide ((d.n : Int) ≤ b))) || (decide (c < 0))) || (decide ((f.n : Int) ≤ c))) || ((decide (0 < i)) && (decide (b ≤ j)))) == false)) (.int .i64 c)), (47, fun v _ => v = cV (true && ((((((decide (b < 0)) || (decide ((d.n : Int) ≤ b))) || (decide (c < 0))) || (decide ((f.n : Int) ≤ c))) || ((decide (0 < i)) && (decide (b ≤ j)))) == false)) (.pointer (some (aG.add (c.toNat * 15))))), (48, fun v _ => v = cV (true && ((((((decide (b < 0)) || (decide ((d.n : Int) ≤ b))) || (decide (c < 0))) || (decide ((f.n : Int) ≤ c))) || ((decide (0 < i)) && (decide (b ≤ j)))) == false)) (.pointer (some ((aG.add (c.toNat * 15)).add 5)))), (49, fun v _ => v = cV (true && ((((((decide (b < 0)) || (decide ((d.n : Int) ≤ b))) || (decide (c < 0))) || (decide ((f.n : Int) ≤ c))) || ((decide (0 < i)) && (decide (b ≤ j)))) == false)) (.agg #[.int .i64 aO, .string (Bs aP), .string (Bs aQ), Sl.v aR, Sl.v aS])), (50, fun v _ => v = cV (true && ((((((decide (b < 0)) || (decide ((d.n : Int) ≤ b))) || (decide (c < 0))) || (decide ((f.n : Int) ≤ c))) || ((decide (0 < i)) && (decide (b ≤ j)))) == false)) (.bool ai)), (51, fun v _ => v = cV (true && ((((((decide (b < 0)) || (decide ((d.n : Int) ≤ b))) || (decide (c < 0))) || (decide ((f.n : Int) ≤ c))) || ((decide (0 < i)) && (decide (b ≤ j)))) == false)) (.bool (!ai))), (52, fun v _ => v = .bool ((((((decide (b < 0)) || (decide ((d.n : Int) ≤ b))) || (decide (c < 0))) || (decide ((f.n : Int) ≤ c))) || ((decide (0 < i)) && (decide (b ≤ j)))) || (!ai)))]) k (by kernel_rfl) ⟨fun _ _ _ _ h => by first | exact h | (change _ = _ at h; change _ = _; exact h), fun _ _ _ _ h => by first | exact h | (change _ = _ at h; change _ = _; exact h), fun _ _ _ _ h => by first | exact h | (change _ = _ at h; change _ = _; exact h), fun _ _ _ _ h => by first | exact h | (change _ = _ at h; change _ = _; exact h), fun _ _ _ _ h => by first | exact h | (change _ = _ at h; change _ = _; exact h), fun _ _ _ _ h => by first | exact h | (change _ = _ at h; change _ = _; exact h), fun _ _ _ _ h => by first | exact h | (change _ = _ at h; change _ = _; exact h), fun _ _ _ _ h => by first | exact h | (change _ = _ at h; change _ = _; exact h), fun _ _ _ _ h => by first | exact h | (change _ = _ at h; change _ = _; exact h), fun _ _ _ _ h => by first | exact h | (change _ = _ at h; change _ = _; exact h), fun _ _ _ _ h => by first | exact h | (change _ = _ at h; change _ = _; exact h), fun _ _ _ _ h => by first | exact h | (change _ = _ at h; change _ = _; exact h), fun _ _ _ _ h => by first | exact h | (change _ = _ at h; change _ = _; exact h), fun _ _ _ _ h => by first | exact h | (change _ = _ at h; change _ = _; exact h), fun _ _ _ _ h => by first | exact h | (change _ = _ at h; change _ = _; exact h), fun _ _ _ _ h => by first | exact h | (change _ = _ at h; change _ = _; exact h), fun _ _ _ _ h => by first | exact h | (change _ = _ at h; change _ = _; exact h), fun _ _ _ _ h => by first | exact h | (change _ = _ at h; change _ = _; exact h), fun _ _ _ _ h => by first | exact h | (change _ = _ at h; change _ = _; exact h), fun _ _ _ _ h => by first | exact h | (change _ = _ at h; change _ = _; exact h), fun _ _ _ _ h => by first | exact h | (change _ = _ at h; change _ = _; exact h), fun _ _ _ _ h => by first | exact h | (change _ = _ at h; change _ = _; exact h), fun _ _ _ _ h => by first | exact h | (change _ = _ at h; change _ = _; exact h), fun _ _ _ _ h => by first | exact h | (change _ = _ at h; change _ = _; exact h), fun _ _ _ _ h => by first | exact h | (change _ = _ at h; change _ = _; exact h), fun _ _ _ _ h => by first | exact h | (change _ = _ at h; change _ = _; exact h), fun _ _ _ _ h => by first | exact h | (change _ = _ at h; change _ = _; exact h), fun _ _ _ _ h => by first | exact h | (change _ = _ at h; change _ = _; exact h), fun _ _ _ _ h => by first | exact h | (change _ = _ at h; change _ = _; exact h), fun _ _ _ _ h => by first | exact h | (change _ = _ at h; change _ = _; exact h), fun _ _ _ _ h => by first | exact h | (change _ = _ at h; change _ = _; exact h), fun _ _ _ _ h => by first | exact h | (change _ = _ at h; change _ = _; exact h), fun _ _ _ _ h => by first | exact h | (change _ = _ at h; change _ = _; exact h), fun _ _ _ _ h => by first | exact h | (change _ = _ at h; change _ = _; exact h), fun _ _ _ _ h => by first | exact h | (change _ = _ at h; change _ = _; exact h), fun _ _ _ _ h => by first | exact h | (change _ = _ at h; change _ = _; exact h), fun _ _ _ _ h => by first | exact h | (change _ = _ at h; change _ = _; exact h), fun _ _ _ _ h => by first | exact h | (change _ = _ at h; change _ = _; exact h), fun _ _ _ _ h => by first | exact h | (change _ = _ at h; change _ = _; exact h), fun _ _ _ _ h => by first | exact h | (change _ = _ at h; change _ = _; exact h), fun _ _ _ _ h => by first | exact h | (change _ = _ at h; change _ = _; exact h), fun _ _ _ _ h => by first | exact h | (change _ = _ at h; change _ = _; exact h), fun _ _ _ _ h => by first | exact h | (change _ = _ at h; change _ = _; exact h), fun _ _ _ _ h => by first | exact h | (change _ = _ at h; change _ = _; exact h), fun _ _ _ _ h => by first | exact h | (change _ = _ at h; change _ = _; exact h), fun _ _ _ _ h => by first | exact h | (change _ = _ at h; change _ = _; exact h), fun _ _ _ _ h => by first | exact h | (change _ = _ at h; change _ = _; exact h), fun _ _ _ _ h => by first | exact h | (change _ = _ at h; change _ = _; exact h), fun _ _ _ _ h => by first | exact h | (change _ = _ at h; change _ = _; exact h), fun _ _ _ _ h => by first | exact h | (change _ = _ at h; change _ = _; exact h), fun _ _ _ _ h => by first | exact h | (change _ = _ at h; change _ = _; exact h), fun _ _ _ _ h => by first | exact h | (change _ = _ at h; change _ = _; exact h), fun _ _ _ _ h => by first | exact h | (change _ = _ at h; change _ = _; exact h), trivial⟩ ⟨?_, ?_, ?_, ?_, ?_, ?_, ?_, ?_, ?_, ?_, ?_, ?_, ?_, ?_, ?_, ?_, ?_, ?_, ?_, ?_, ?_, ?_, ?_, ?_, ?_, ?_, ?_, ?_, ?_, ?_, ?_, ?_, ?_, ?_, ?_, ?_, ?_, ?_, ?_, ?_, ?_, ?_, ?_, ?_, ?_, ?_, ?_, ?_, ?_, ?_, ?_, ?_, ?_, trivial⟩ ?_
    ·intro a w hT
     have hAp := hT.ag k [(11, pB m 0)] ⟨rfl, trivial⟩ (by kernel_rfl)
     exact ovr hAp rfl (r_fieldAddr (hAp.get rfl) Try.underlying40 rfl ti_3 (by decide)) fun _ => Eq.refl _
    ·intro a w hT
     have hAp := hT.ag k [] trivial (by kernel_rfl)
     have hAp := hAp.add (t := 35) (v := pB m 0) (hT.vals 0 rfl 35 rfl)
     exact ovr hAp rfl (r_load1 tU3 rfl (hAp.get rfl) ((az.ext hT.chg).cell 0 _ rfl)) fun _ => Eq.refl _
    ·intro a w hT
     have hAp := hT.ag k [] trivial (by kernel_rfl)
     have hAp := hAp.add (t := 36) (v := .int .i64 b) (hT.vals 1 rfl 36 rfl)
     exact ovr hAp rfl (r_lss (hAp.get rfl) rfl) fun _ => Eq.refl _
    ·intro a w hT
     have hAp := hT.ag k [] trivial (by kernel_rfl)
     have hAp := hAp.add (t := 37) (v := .bool (decide (b < 0))) (hT.vals 2 rfl 37 rfl)
     exact ovr hAp rfl (r_move (hAp.get rfl)) fun _ => Eq.refl _
    ·intro a w hT
     have hAp := hT.ag k [(11, pB m 0)] ⟨rfl, trivial⟩ (by kernel_rfl)
     have hAp := hAp.add (t := 38) (v := .bool (decide (b < 0))) (hT.vals 3 rfl 38 rfl)
     exact opk_gval hAp rfl rfl (g := true) (e := (decide (b < 0))) rfl (fun hg => r_fieldAddr (hAp.get rfl) Try.underlying40 rfl ti_3 (by decide)) fun _ _ e => ⟨_, e, Chg.refl _ _, fun _ => Eq.refl _⟩
    ·intro a w hT
     have hAp := hT.ag k [] trivial (by kernel_rfl)
     have hAp := hAp.add (t := 38) (v := .bool (decide (b < 0))) (hT.vals 3 rfl 38 rfl)
     have hAp := hAp.add (t := 39) (v := cV (true && ((decide (b < 0)) == false)) (pB m 0)) (hT.vals 4 rfl 39 rfl)
     exact opk_gval hAp rfl rfl (g := true) (e := (decide (b < 0))) rfl (fun hg => r_load1 tU3 rfl (cv_get (hAp.get rfl) hg) ((az.ext hT.chg).cell 0 _ rfl)) fun _ _ e => ⟨_, e, Chg.refl _ _, fun _ => Eq.refl _⟩
    ·intro a w hT
     have hAp := hT.ag k [(7, Sl.v d)] ⟨rfl, trivial⟩ (by kernel_rfl)
     have hAp := hAp.add (t := 38) (v := .bool (decide (b < 0))) (hT.vals 3 rfl 38 rfl)
     exact opk_gval hAp rfl rfl (g := true) (e := (decide (b < 0))) rfl (fun hg => r_move (hAp.get rfl)) fun _ _ e => ⟨_, e, Chg.refl _ _, fun _ => Eq.refl _⟩
    ·intro a w hT
     have hAp := hT.ag k [] trivial (by kernel_rfl)
     have hAp := hAp.add (t := 38) (v := .bool (decide (b < 0))) (hT.vals 3 rfl 38 rfl)
     have hAp := hAp.add (t := 41) (v := cV (true && ((decide (b < 0)) == false)) (Sl.v d)) (hT.vals 6 rfl 41 rfl)
     exact opk_gval hAp rfl rfl (g := true) (e := (decide (b < 0))) rfl (fun hg => r_len (cv_get (hAp.get rfl) hg) tU31) fun _ _ e => ⟨_, e, Chg.refl _ _, fun _ => Eq.refl _⟩
    ·intro a w hT
     have hAp := hT.ag k [] trivial (by kernel_rfl)
     have hAp := hAp.add (t := 38) (v := .bool (decide (b < 0))) (hT.vals 3 rfl 38 rfl)
     have hAp := hAp.add (t := 40) (v := cV (true && ((decide (b < 0)) == false)) (.int .i64 b)) (hT.vals 5 rfl 40 rfl)
     have hAp := hAp.add (t := 42) (v := cV (true && ((decide (b < 0)) == false)) (.int .i64 (d.n : Int))) (hT.vals 7 rfl 42 rfl)
     exact opk_gval hAp rfl rfl (g := true) (e := (decide (b < 0))) rfl (fun hg => r_geq (cv_get (hAp.get rfl) hg) (cv_get (hAp.get rfl) hg)) fun _ _ e => ⟨_, e, Chg.refl _ _, fun _ => Eq.refl _⟩
    ·intro a w hT
     have hAp := hT.ag k [] trivial (by kernel_rfl)
     have hAp := hAp.add (t := 38) (v := .bool (decide (b < 0))) (hT.vals 3 rfl 38 rfl)
     have hAp := hAp.add (t := 43) (v := cV (true && ((decide (b < 0)) == false)) (.bool (decide ((d.n : Int) ≤ b)))) (hT.vals 8 rfl 43 rfl)
     exact ovr hAp rfl (r_pick_or (g := (true && ((decide (b < 0)) == false))) (hAp.get rfl) (hAp.get rfl) (fun he => g_mkf rfl he)) fun _ => Eq.refl _
    ·intro a w hT
     have hAp := hT.ag k [] trivial (by kernel_rfl)
     have hAp := hAp.add (t := 44) (v := .bool ((decide (b < 0)) || (decide ((d.n : Int) ≤ b)))) (hT.vals 9 rfl 44 rfl)
     exact ovr hAp rfl (r_move (hAp.get rfl)) fun _ => Eq.refl _
    ·intro a w hT
     have hAp := hT.ag k [(11, pB m 0)] ⟨rfl, trivial⟩ (by kernel_rfl)
     have hAp := hAp.add (t := 45) (v := .bool ((decide (b < 0)) || (decide ((d.n : Int) ≤ b)))) (hT.vals 10 rfl 45 rfl)
     exact opk_gval hAp rfl rfl (g := true) (e := ((decide (b < 0)) || (decide ((d.n : Int) ≤ b)))) rfl (fun hg => r_fieldAddr (hAp.get rfl) Try.underlying40 rfl ti_3 (by decide)) fun _ _ e => ⟨_, e, Chg.refl _ _, fun _ => Eq.refl _⟩
    ·intro a w hT
     have hAp := hT.ag k [] trivial (by kernel_rfl)
     have hAp := hAp.add (t := 45) (v := .bool ((decide (b < 0)) || (decide ((d.n : Int) ≤ b)))) (hT.vals 10 rfl 45 rfl)
     have hAp := hAp.add (t := 46) (v := cV (true && (((decide (b < 0)) || (decide ((d.n : Int) ≤ b))) == false)) (pB m 1)) (hT.vals 11 rfl 46 rfl)
     exact opk_gval hAp rfl rfl (g := true) (e := ((decide (b < 0)) || (decide ((d.n : Int) ≤ b)))) rfl (fun hg => r_load1 tU3 rfl (cv_get (hAp.get rfl) hg) ((az.ext hT.chg).cell 1 _ rfl)) fun _ _ e => ⟨_, e, Chg.refl _ _, fun _ => Eq.refl _⟩
    ·intro a w hT
     have hAp := hT.ag k [] trivial (by kernel_rfl)
     have hAp := hAp.add (t := 45) (v := .bool ((decide (b < 0)) || (decide ((d.n : Int) ≤ b)))) (hT.vals 10 rfl 45 rfl)
     have hAp := hAp.add (t := 47) (v := cV (true && (((decide (b < 0)) || (decide ((d.n : Int) ≤ b))) == false)) (.int .i64 c)) (hT.vals 12 rfl 47 rfl)
     exact opk_gval hAp rfl rfl (g := true) (e := ((decide (b < 0)) || (decide ((d.n : Int) ≤ b)))) rfl (fun hg => r_lss (cv_get (hAp.get rfl) hg) rfl) fun _ _ e => ⟨_, e, Chg.refl _ _, fun _ => Eq.refl _⟩
    ·intro a w hT
     have hAp := hT.ag k [] trivial (by kernel_rfl)
     have hAp := hAp.add (t := 45) (v := .bool ((decide (b < 0)) || (decide ((d.n : Int) ≤ b)))) (hT.vals 10 rfl 45 rfl)
     have hAp := hAp.add (t := 48) (v := cV (true && (((decide (b < 0)) || (decide ((d.n : Int) ≤ b))) == false)) (.bool (decide (c < 0)))) (hT.vals 13 rfl 48 rfl)
     exact ovr hAp rfl (r_pick_or (g := (true && (((decide (b < 0)) || (decide ((d.n : Int) ≤ b))) == false))) (hAp.get rfl) (hAp.get rfl) (fun he => g_mkf rfl he)) fun _ => Eq.refl _
    ·intro a w hT
     have hAp := hT.ag k [] trivial (by kernel_rfl)
     have hAp := hAp.add (t := 49) (v := .bool (((decide (b < 0)) || (decide ((d.n : Int) ≤ b))) || (decide (c < 0)))) (hT.vals 14 rfl 49 rfl)
     exact ovr hAp rfl (r_move (hAp.get rfl)) fun _ => Eq.refl _
    ·intro a w hT
     have hAp := hT.ag k [(11, pB m 0)] ⟨rfl, trivial⟩ (by kernel_rfl)
     have hAp := hAp.add (t := 50) (v := .bool (((decide (b < 0)) || (decide ((d.n : Int) ≤ b))) || (decide (c < 0)))) (hT.vals 15 rfl 50 rfl)
     exact opk_gval hAp rfl rfl (g := true) (e := (((decide (b < 0)) || (decide ((d.n : Int) ≤ b))) || (decide (c < 0)))) rfl (fun hg => r_fieldAddr (hAp.get rfl) Try.underlying40 rfl ti_3 (by decide)) fun _ _ e => ⟨_, e, Chg.refl _ _, fun _ => Eq.refl _⟩
    ·intro a w hT
     have hAp := hT.ag k [] trivial (by kernel_rfl)
     have hAp := hAp.add (t := 50) (v := .bool (((decide (b < 0)) || (decide ((d.n : Int) ≤ b))) || (decide (c < 0)))) (hT.vals 15 rfl 50 rfl)
     have hAp := hAp.add (t := 51) (v := cV (true && ((((decide (b < 0)) || (decide ((d.n : Int) ≤ b))) || (decide (c < 0))) == false)) (pB m 1)) (hT.vals 16 rfl 51 rfl)
     exact opk_gval hAp rfl rfl (g := true) (e := (((decide (b < 0)) || (decide ((d.n : Int) ≤ b))) || (decide (c < 0)))) rfl (fun hg => r_load1 tU3 rfl (cv_get (hAp.get rfl) hg) ((az.ext hT.chg).cell 1 _ rfl)) fun _ _ e => ⟨_, e, Chg.refl _ _, fun _ => Eq.refl _⟩
    ·intro a w hT
     have hAp := hT.ag k [(8, Sl.v f)] ⟨rfl, trivial⟩ (by kernel_rfl)
     have hAp := hAp.add (t := 50) (v := .bool (((decide (b < 0)) || (decide ((d.n : Int) ≤ b))) || (decide (c < 0)))) (hT.vals 15 rfl 50 rfl)
     exact opk_gval hAp rfl rfl (g := true) (e := (((decide (b < 0)) || (decide ((d.n : Int) ≤ b))) || (decide (c < 0)))) rfl (fun hg => r_move (hAp.get rfl)) fun _ _ e => ⟨_, e, Chg.refl _ _, fun _ => Eq.refl _⟩
    ·intro a w hT
     have hAp := hT.ag k [] trivial (by kernel_rfl)
     have hAp := hAp.add (t := 50) (v := .bool (((decide (b < 0)) || (decide ((d.n : Int) ≤ b))) || (decide (c < 0)))) (hT.vals 15 rfl 50 rfl)
     have hAp := hAp.add (t := 53) (v := cV (true && ((((decide (b < 0)) || (decide ((d.n : Int) ≤ b))) || (decide (c < 0))) == false)) (Sl.v f)) (hT.vals 18 rfl 53 rfl)
     exact opk_gval hAp rfl rfl (g := true) (e := (((decide (b < 0)) || (decide ((d.n : Int) ≤ b))) || (decide (c < 0)))) rfl (fun hg => r_len (cv_get (hAp.get rfl) hg) tU31) fun _ _ e => ⟨_, e, Chg.refl _ _, fun _ => Eq.refl _⟩
    ·intro a w hT
     have hAp := hT.ag k [] trivial (by kernel_rfl)
     have hAp := hAp.add (t := 50) (v := .bool (((decide (b < 0)) || (decide ((d.n : Int) ≤ b))) || (decide (c < 0)))) (hT.vals 15 rfl 50 rfl)
     have hAp := hAp.add (t := 52) (v := cV (true && ((((decide (b < 0)) || (decide ((d.n : Int) ≤ b))) || (decide (c < 0))) == false)) (.int .i64 c)) (hT.vals 17 rfl 52 rfl)
     have hAp := hAp.add (t := 54) (v := cV (true && ((((decide (b < 0)) || (decide ((d.n : Int) ≤ b))) || (decide (c < 0))) == false)) (.int .i64 (f.n : Int))) (hT.vals 19 rfl 54 rfl)
     exact opk_gval hAp rfl rfl (g := true) (e := (((decide (b < 0)) || (decide ((d.n : Int) ≤ b))) || (decide (c < 0)))) rfl (fun hg => r_geq (cv_get (hAp.get rfl) hg) (cv_get (hAp.get rfl) hg)) fun _ _ e => ⟨_, e, Chg.refl _ _, fun _ => Eq.refl _⟩
    ·intro a w hT
     have hAp := hT.ag k [] trivial (by kernel_rfl)
     have hAp := hAp.add (t := 50) (v := .bool (((decide (b < 0)) || (decide ((d.n : Int) ≤ b))) || (decide (c < 0)))) (hT.vals 15 rfl 50 rfl)
     have hAp := hAp.add (t := 55) (v := cV (true && ((((decide (b < 0)) || (decide ((d.n : Int) ≤ b))) || (decide (c < 0))) == false)) (.bool (decide ((f.n : Int) ≤ c)))) (hT.vals 20 rfl 55 rfl)
     exact ovr hAp rfl (r_pick_or (g := (true && ((((decide (b < 0)) || (decide ((d.n : Int) ≤ b))) || (decide (c < 0))) == false))) (hAp.get rfl) (hAp.get rfl) (fun he => g_mkf rfl he)) fun _ => Eq.refl _
    ·intro a w hT
     have hAp := hT.ag k [] trivial (by kernel_rfl)
     have hAp := hAp.add (t := 56) (v := .bool ((((decide (b < 0)) || (decide ((d.n : Int) ≤ b))) || (decide (c < 0))) || (decide ((f.n : Int) ≤ c)))) (hT.vals 21 rfl 56 rfl)
     exact ovr hAp rfl (r_move (hAp.get rfl)) fun _ => Eq.refl _
    ·intro a w hT
     have hAp := hT.ag k [(10, .int .i64 i)] ⟨rfl, trivial⟩ (by kernel_rfl)
     have hAp := hAp.add (t := 57) (v := .bool ((((decide (b < 0)) || (decide ((d.n : Int) ≤ b))) || (decide (c < 0))) || (decide ((f.n : Int) ≤ c)))) (hT.vals 22 rfl 57 rfl)
     exact opk_gval hAp rfl rfl (g := true) (e := ((((decide (b < 0)) || (decide ((d.n : Int) ≤ b))) || (decide (c < 0))) || (decide ((f.n : Int) ≤ c)))) rfl (fun hg => r_move (hAp.get rfl)) fun _ _ e => ⟨_, e, Chg.refl _ _, fun _ => Eq.refl _⟩
    ·intro a w hT
     have hAp := hT.ag k [] trivial (by kernel_rfl)
     have hAp := hAp.add (t := 57) (v := .bool ((((decide (b < 0)) || (decide ((d.n : Int) ≤ b))) || (decide (c < 0))) || (decide ((f.n : Int) ≤ c)))) (hT.vals 22 rfl 57 rfl)
     have hAp := hAp.add (t := 58) (v := cV (true && (((((decide (b < 0)) || (decide ((d.n : Int) ≤ b))) || (decide (c < 0))) || (decide ((f.n : Int) ≤ c))) == false)) (.int .i64 i)) (hT.vals 23 rfl 58 rfl)
     exact opk_gval hAp rfl rfl (g := true) (e := ((((decide (b < 0)) || (decide ((d.n : Int) ≤ b))) || (decide (c < 0))) || (decide ((f.n : Int) ≤ c)))) rfl (fun hg => r_gtr (cv_get (hAp.get rfl) hg) rfl) fun _ _ e => ⟨_, e, Chg.refl _ _, fun _ => Eq.refl _⟩
    ·intro a w hT
     have hAp := hT.ag k [] trivial (by kernel_rfl)
     have hAp := hAp.add (t := 57) (v := .bool ((((decide (b < 0)) || (decide ((d.n : Int) ≤ b))) || (decide (c < 0))) || (decide ((f.n : Int) ≤ c)))) (hT.vals 22 rfl 57 rfl)
     have hAp := hAp.add (t := 59) (v := cV (true && (((((decide (b < 0)) || (decide ((d.n : Int) ≤ b))) || (decide (c < 0))) || (decide ((f.n : Int) ≤ c))) == false)) (.bool (decide (0 < i)))) (hT.vals 24 rfl 59 rfl)
     exact opk_gval hAp rfl rfl (g := true) (e := ((((decide (b < 0)) || (decide ((d.n : Int) ≤ b))) || (decide (c < 0))) || (decide ((f.n : Int) ≤ c)))) rfl (fun hg => r_move (cv_get (hAp.get rfl) hg)) fun _ _ e => ⟨_, e, Chg.refl _ _, fun _ => Eq.refl _⟩
    ·intro a w hT
     have hAp := hT.ag k [(11, pB m 0)] ⟨rfl, trivial⟩ (by kernel_rfl)
     have hAp := hAp.add (t := 60) (v := cV (true && (((((decide (b < 0)) || (decide ((d.n : Int) ≤ b))) || (decide (c < 0))) || (decide ((f.n : Int) ≤ c))) == false)) (.bool (decide (0 < i)))) (hT.vals 25 rfl 60 rfl)
     exact opk_gval hAp rfl rfl (g := (true && (((((decide (b < 0)) || (decide ((d.n : Int) ≤ b))) || (decide (c < 0))) || (decide ((f.n : Int) ≤ c))) == false))) (e := (decide (0 < i))) rfl (fun hg => r_fieldAddr (hAp.get rfl) Try.underlying40 rfl ti_3 (by decide)) fun _ _ e => ⟨_, e, Chg.refl _ _, fun _ => Eq.refl _⟩
    ·intro a w hT
     have hAp := hT.ag k [] trivial (by kernel_rfl)
     have hAp := hAp.add (t := 60) (v := cV (true && (((((decide (b < 0)) || (decide ((d.n : Int) ≤ b))) || (decide (c < 0))) || (decide ((f.n : Int) ≤ c))) == false)) (.bool (decide (0 < i)))) (hT.vals 25 rfl 60 rfl)
     have hAp := hAp.add (t := 61) (v := cV ((true && (((((decide (b < 0)) || (decide ((d.n : Int) ≤ b))) || (decide (c < 0))) || (decide ((f.n : Int) ≤ c))) == false)) && ((decide (0 < i)) == true)) (pB m 0)) (hT.vals 26 rfl 61 rfl)
     exact opk_gval hAp rfl rfl (g := (true && (((((decide (b < 0)) || (decide ((d.n : Int) ≤ b))) || (decide (c < 0))) || (decide ((f.n : Int) ≤ c))) == false))) (e := (decide (0 < i))) rfl (fun hg => r_load1 tU3 rfl (cv_get (hAp.get rfl) hg) ((az.ext hT.chg).cell 0 _ rfl)) fun _ _ e => ⟨_, e, Chg.refl _ _, fun _ => Eq.refl _⟩
    ·intro a w hT
     have hAp := hT.ag k [(2, Sl.v l)] ⟨rfl, trivial⟩ (by kernel_rfl)
     have hAp := hAp.add (t := 60) (v := cV (true && (((((decide (b < 0)) || (decide ((d.n : Int) ≤ b))) || (decide (c < 0))) || (decide ((f.n : Int) ≤ c))) == false)) (.bool (decide (0 < i)))) (hT.vals 25 rfl 60 rfl)
     exact opk_gval hAp rfl rfl (g := (true && (((((decide (b < 0)) || (decide ((d.n : Int) ≤ b))) || (decide (c < 0))) || (decide ((f.n : Int) ≤ c))) == false))) (e := (decide (0 < i))) rfl (fun hg => r_move (hAp.get rfl)) fun _ _ e => ⟨_, e, Chg.refl _ _, fun _ => Eq.refl _⟩
    ·intro a w hT
     have hAp := hT.ag k [(10, .int .i64 i)] ⟨rfl, trivial⟩ (by kernel_rfl)
     have hAp := hAp.add (t := 60) (v := cV (true && (((((decide (b < 0)) || (decide ((d.n : Int) ≤ b))) || (decide (c < 0))) || (decide ((f.n : Int) ≤ c))) == false)) (.bool (decide (0 < i)))) (hT.vals 25 rfl 60 rfl)
     exact opk_gval hAp rfl rfl (g := (true && (((((decide (b < 0)) || (decide ((d.n : Int) ≤ b))) || (decide (c < 0))) || (decide ((f.n : Int) ≤ c))) == false))) (e := (decide (0 < i))) rfl (fun hg => r_move (hAp.get rfl)) fun _ _ e => ⟨_, e, Chg.refl _ _, fun _ => Eq.refl _⟩
    ·intro a w hT
     have hAp := hT.ag k [] trivial (by kernel_rfl)
     have hAp := hAp.add (t := 60) (v := cV (true && (((((decide (b < 0)) || (decide ((d.n : Int) ≤ b))) || (decide (c < 0))) || (decide ((f.n : Int) ≤ c))) == false)) (.bool (decide (0 < i)))) (hT.vals 25 rfl 60 rfl)
     have hAp := hAp.add (t := 64) (v := cV ((true && (((((decide (b < 0)) || (decide ((d.n : Int) ≤ b))) || (decide (c < 0))) || (decide ((f.n : Int) ≤ c))) == false)) && ((decide (0 < i)) == true)) (.int .i64 i)) (hT.vals 29 rfl 64 rfl)
     exact opk_gval hAp rfl rfl (g := (true && (((((decide (b < 0)) || (decide ((d.n : Int) ≤ b))) || (decide (c < 0))) || (decide ((f.n : Int) ≤ c))) == false))) (e := (decide (0 < i))) rfl (fun hg => r_subI (cv_get (hAp.get rfl) hg) rfl (dH ⟨⟨⟨⟨(of_decide_eq_false (b_or_f (b_or_f (b_or_f (g_f (g_up hg))).1).1).1), (of_decide_eq_false (b_or_f (b_or_f (b_or_f (g_f (g_up hg))).1).1).2)⟩, (of_decide_eq_false (b_or_f (b_or_f (g_f (g_up hg))).1).2)⟩, (of_decide_eq_false (b_or_f (g_f (g_up hg))).2)⟩, (of_decide_eq_true (g_t hg))⟩)) fun _ _ e => ⟨_, e, Chg.refl _ _, fun _ => Eq.refl _⟩
    ·intro a w hT
     have hAp := hT.ag k [] trivial (by kernel_rfl)
     have hAp := hAp.add (t := 60) (v := cV (true && (((((decide (b < 0)) || (decide ((d.n : Int) ≤ b))) || (decide (c < 0))) || (decide ((f.n : Int) ≤ c))) == false)) (.bool (decide (0 < i)))) (hT.vals 25 rfl 60 rfl)
     have hAp := hAp.add (t := 63) (v := cV ((true && (((((decide (b < 0)) || (decide ((d.n : Int) ≤ b))) || (decide (c < 0))) || (decide ((f.n : Int) ≤ c))) == false)) && ((decide (0 < i)) == true)) (Sl.v l)) (hT.vals 28 rfl 63 rfl)
     have hAp := hAp.add (t := 65) (v := cV ((true && (((((decide (b < 0)) || (decide ((d.n : Int) ≤ b))) || (decide (c < 0))) || (decide ((f.n : Int) ≤ c))) == false)) && ((decide (0 < i)) == true)) (.int .i64 (i - 1))) (hT.vals 30 rfl 65 rfl)
     exact opk_gval hAp rfl rfl (g := (true && (((((decide (b < 0)) || (decide ((d.n : Int) ≤ b))) || (decide (c < 0))) || (decide ((f.n : Int) ≤ c))) == false))) (e := (decide (0 < i))) rfl (fun hg => r_indexAddr (cv_get (hAp.get rfl) hg) (cv_get (hAp.get rfl) hg) tU29 ti_40 (bT ⟨⟨⟨⟨(of_decide_eq_false (b_or_f (b_or_f (b_or_f (g_f (g_up hg))).1).1).1), (of_decide_eq_false (b_or_f (b_or_f (b_or_f (g_f (g_up hg))).1).1).2)⟩, (of_decide_eq_false (b_or_f (b_or_f (g_f (g_up hg))).1).2)⟩, (of_decide_eq_false (b_or_f (g_f (g_up hg))).2)⟩, (of_decide_eq_true (g_t hg))⟩).1 (bT ⟨⟨⟨⟨(of_decide_eq_false (b_or_f (b_or_f (b_or_f (g_f (g_up hg))).1).1).1), (of_decide_eq_false (b_or_f (b_or_f (b_or_f (g_f (g_up hg))).1).1).2)⟩, (of_decide_eq_false (b_or_f (b_or_f (g_f (g_up hg))).1).2)⟩, (of_decide_eq_false (b_or_f (g_f (g_up hg))).2)⟩, (of_decide_eq_true (g_t hg))⟩).2) fun _ _ e => ⟨_, e, Chg.refl _ _, fun _ => Eq.refl _⟩
    ·intro a w hT
     have hAp := hT.ag k [] trivial (by kernel_rfl)
     have hAp := hAp.add (t := 60) (v := cV (true && (((((decide (b < 0)) || (decide ((d.n : Int) ≤ b))) || (decide (c < 0))) || (decide ((f.n : Int) ≤ c))) == false)) (.bool (decide (0 < i)))) (hT.vals 25 rfl 60 rfl)
     have hAp := hAp.add (t := 66) (v := cV ((true && (((((decide (b < 0)) || (decide ((d.n : Int) ≤ b))) || (decide (c < 0))) || (decide ((f.n : Int) ≤ c))) == false)) && ((decide (0 < i)) == true)) (.pointer (some (aD.add ((i - 1).toNat * 2))))) (hT.vals 31 rfl 66 rfl)
     exact opk_gval hAp rfl rfl (g := (true && (((((decide (b < 0)) || (decide ((d.n : Int) ≤ b))) || (decide (c < 0))) || (decide ((f.n : Int) ≤ c))) == false))) (e := (decide (0 < i))) rfl (fun hg => r_fieldAddr (cv_get (hAp.get rfl) hg) Try.underlying40 rfl ti_3 (by decide)) fun _ _ e => ⟨_, e, Chg.refl _ _, fun _ => Eq.refl _⟩
    ·intro a w hT
     have hAp := hT.ag k [] trivial (by kernel_rfl)
     have hAp := hAp.add (t := 60) (v := cV (true && (((((decide (b < 0)) || (decide ((d.n : Int) ≤ b))) || (decide (c < 0))) || (decide ((f.n : Int) ≤ c))) == false)) (.bool (decide (0 < i)))) (hT.vals 25 rfl 60 rfl)
     have hAp := hAp.add (t := 67) (v := cV ((true && (((((decide (b < 0)) || (decide ((d.n : Int) ≤ b))) || (decide (c < 0))) || (decide ((f.n : Int) ≤ c))) == false)) && ((decide (0 < i)) == true)) (.pointer (some ((aD.add ((i - 1).toNat * 2)).add 0)))) (hT.vals 32 rfl 67 rfl)
     exact opk_gval hAp rfl rfl (g := (true && (((((decide (b < 0)) || (decide ((d.n : Int) ≤ b))) || (decide (c < 0))) || (decide ((f.n : Int) ≤ c))) == false))) (e := (decide (0 < i))) rfl (fun hg => r_load1 tU3 rfl (cv_get (hAp.get rfl) hg) (Ext.cell hT.chg (dK ⟨⟨⟨⟨(of_decide_eq_false (b_or_f (b_or_f (b_or_f (g_f (g_up hg))).1).1).1), (of_decide_eq_false (b_or_f (b_or_f (b_or_f (g_f (g_up hg))).1).1).2)⟩, (of_decide_eq_false (b_or_f (b_or_f (g_f (g_up hg))).1).2)⟩, (of_decide_eq_false (b_or_f (g_f (g_up hg))).2)⟩, (of_decide_eq_true (g_t hg))⟩))) fun _ _ e => ⟨_, e, Chg.refl _ _, fun _ => Eq.refl _⟩
    ·intro a w hT
     have hAp := hT.ag k [] trivial (by kernel_rfl)
     have hAp := hAp.add (t := 60) (v := cV (true && (((((decide (b < 0)) || (decide ((d.n : Int) ≤ b))) || (decide (c < 0))) || (decide ((f.n : Int) ≤ c))) == false)) (.bool (decide (0 < i)))) (hT.vals 25 rfl 60 rfl)
     have hAp := hAp.add (t := 62) (v := cV ((true && (((((decide (b < 0)) || (decide ((d.n : Int) ≤ b))) || (decide (c < 0))) || (decide ((f.n : Int) ≤ c))) == false)) && ((decide (0 < i)) == true)) (.int .i64 b)) (hT.vals 27 rfl 62 rfl)
     have hAp := hAp.add (t := 68) (v := cV ((true && (((((decide (b < 0)) || (decide ((d.n : Int) ≤ b))) || (decide (c < 0))) || (decide ((f.n : Int) ≤ c))) == false)) && ((decide (0 < i)) == true)) (.int .i64 j)) (hT.vals 33 rfl 68 rfl)
     exact opk_gval hAp rfl rfl (g := (true && (((((decide (b < 0)) || (decide ((d.n : Int) ≤ b))) || (decide (c < 0))) || (decide ((f.n : Int) ≤ c))) == false))) (e := (decide (0 < i))) rfl (fun hg => r_leq (cv_get (hAp.get rfl) hg) (cv_get (hAp.get rfl) hg)) fun _ _ e => ⟨_, e, Chg.refl _ _, fun _ => Eq.refl _⟩
    ·intro a w hT
     have hAp := hT.ag k [] trivial (by kernel_rfl)
     have hAp := hAp.add (t := 57) (v := .bool ((((decide (b < 0)) || (decide ((d.n : Int) ≤ b))) || (decide (c < 0))) || (decide ((f.n : Int) ≤ c)))) (hT.vals 22 rfl 57 rfl)
     have hAp := hAp.add (t := 60) (v := cV (true && (((((decide (b < 0)) || (decide ((d.n : Int) ≤ b))) || (decide (c < 0))) || (decide ((f.n : Int) ≤ c))) == false)) (.bool (decide (0 < i)))) (hT.vals 25 rfl 60 rfl)
     have hAp := hAp.add (t := 69) (v := cV ((true && (((((decide (b < 0)) || (decide ((d.n : Int) ≤ b))) || (decide (c < 0))) || (decide ((f.n : Int) ≤ c))) == false)) && ((decide (0 < i)) == true)) (.bool (decide (b ≤ j)))) (hT.vals 34 rfl 69 rfl)
     exact opk_gval hAp rfl rfl (g := true) (e := ((((decide (b < 0)) || (decide ((d.n : Int) ≤ b))) || (decide (c < 0))) || (decide ((f.n : Int) ≤ c)))) rfl (fun hg => r_pick_and (g := ((true && (((((decide (b < 0)) || (decide ((d.n : Int) ≤ b))) || (decide (c < 0))) || (decide ((f.n : Int) ≤ c))) == false)) && ((decide (0 < i)) == true))) (cv_get (hAp.get rfl) hg) (hAp.get rfl) (fun he => g_mkt hg he)) fun _ _ e => ⟨_, e, Chg.refl _ _, fun _ => Eq.refl _⟩
    ·intro a w hT
     have hAp := hT.ag k [] trivial (by kernel_rfl)
     have hAp := hAp.add (t := 57) (v := .bool ((((decide (b < 0)) || (decide ((d.n : Int) ≤ b))) || (decide (c < 0))) || (decide ((f.n : Int) ≤ c)))) (hT.vals 22 rfl 57 rfl)
     have hAp := hAp.add (t := 70) (v := cV (true && (((((decide (b < 0)) || (decide ((d.n : Int) ≤ b))) || (decide (c < 0))) || (decide ((f.n : Int) ≤ c))) == false)) (.bool ((decide (0 < i)) && (decide (b ≤ j))))) (hT.vals 35 rfl 70 rfl)
     exact ovr hAp rfl (r_pick_or (g := (true && (((((decide (b < 0)) || (decide ((d.n : Int) ≤ b))) || (decide (c < 0))) || (decide ((f.n : Int) ≤ c))) == false))) (hAp.get rfl) (hAp.get rfl) (fun he => g_mkf rfl he)) fun _ => Eq.refl _
    ·intro a w hT
     have hAp := hT.ag k [] trivial (by kernel_rfl)
     have hAp := hAp.add (t := 71) (v := .bool (((((decide (b < 0)) || (decide ((d.n : Int) ≤ b))) || (decide (c < 0))) || (decide ((f.n : Int) ≤ c))) || ((decide (0 < i)) && (decide (b ≤ j))))) (hT.vals 36 rfl 71 rfl)
     exact ovr hAp rfl (r_move (hAp.get rfl)) fun _ => Eq.refl _
    ·intro a w hT
     have hAp := hT.ag k [(7, Sl.v d)] ⟨rfl, trivial⟩ (by kernel_rfl)
     have hAp := hAp.add (t := 72) (v := .bool (((((decide (b < 0)) || (decide ((d.n : Int) ≤ b))) || (decide (c < 0))) || (decide ((f.n : Int) ≤ c))) || ((decide (0 < i)) && (decide (b ≤ j))))) (hT.vals 37 rfl 72 rfl)
     exact opk_gval hAp rfl rfl (g := true) (e := (((((decide (b < 0)) || (decide ((d.n : Int) ≤ b))) || (decide (c < 0))) || (decide ((f.n : Int) ≤ c))) || ((decide (0 < i)) && (decide (b ≤ j))))) rfl (fun hg => r_move (hAp.get rfl)) fun _ _ e => ⟨_, e, Chg.refl _ _, fun _ => Eq.refl _⟩
    ·intro a w hT
     have hAp := hT.ag k [(11, pB m 0)] ⟨rfl, trivial⟩ (by kernel_rfl)
     have hAp := hAp.add (t := 72) (v := .bool (((((decide (b < 0)) || (decide ((d.n : Int) ≤ b))) || (decide (c < 0))) || (decide ((f.n : Int) ≤ c))) || ((decide (0 < i)) && (decide (b ≤ j))))) (hT.vals 37 rfl 72 rfl)
     exact opk_gval hAp rfl rfl (g := true) (e := (((((decide (b < 0)) || (decide ((d.n : Int) ≤ b))) || (decide (c < 0))) || (decide ((f.n : Int) ≤ c))) || ((decide (0 < i)) && (decide (b ≤ j))))) rfl (fun hg => r_fieldAddr (hAp.get rfl) Try.underlying40 rfl ti_3 (by decide)) fun _ _ e => ⟨_, e, Chg.refl _ _, fun _ => Eq.refl _⟩
    ·intro a w hT
     have hAp := hT.ag k [] trivial (by kernel_rfl)
     have hAp := hAp.add (t := 72) (v := .bool (((((decide (b < 0)) || (decide ((d.n : Int) ≤ b))) || (decide (c < 0))) || (decide ((f.n : Int) ≤ c))) || ((decide (0 < i)) && (decide (b ≤ j))))) (hT.vals 37 rfl 72 rfl)
     have hAp := hAp.add (t := 74) (v := cV (true && ((((((decide (b < 0)) || (decide ((d.n : Int) ≤ b))) || (decide (c < 0))) || (decide ((f.n : Int) ≤ c))) || ((decide (0 < i)) && (decide (b ≤ j)))) == false)) (pB m 0)) (hT.vals 39 rfl 74 rfl)
     exact opk_gval hAp rfl rfl (g := true) (e := (((((decide (b < 0)) || (decide ((d.n : Int) ≤ b))) || (decide (c < 0))) || (decide ((f.n : Int) ≤ c))) || ((decide (0 < i)) && (decide (b ≤ j))))) rfl (fun hg => r_load1 tU3 rfl (cv_get (hAp.get rfl) hg) ((az.ext hT.chg).cell 0 _ rfl)) fun _ _ e => ⟨_, e, Chg.refl _ _, fun _ => Eq.refl _⟩
    ·intro a w hT
     have hAp := hT.ag k [] trivial (by kernel_rfl)
     have hAp := hAp.add (t := 72) (v := .bool (((((decide (b < 0)) || (decide ((d.n : Int) ≤ b))) || (decide (c < 0))) || (decide ((f.n : Int) ≤ c))) || ((decide (0 < i)) && (decide (b ≤ j))))) (hT.vals 37 rfl 72 rfl)
     have hAp := hAp.add (t := 73) (v := cV (true && ((((((decide (b < 0)) || (decide ((d.n : Int) ≤ b))) || (decide (c < 0))) || (decide ((f.n : Int) ≤ c))) || ((decide (0 < i)) && (decide (b ≤ j)))) == false)) (Sl.v d)) (hT.vals 38 rfl 73 rfl)
     have hAp := hAp.add (t := 75) (v := cV (true && ((((((decide (b < 0)) || (decide ((d.n : Int) ≤ b))) || (decide (c < 0))) || (decide ((f.n : Int) ≤ c))) || ((decide (0 < i)) && (decide (b ≤ j)))) == false)) (.int .i64 b)) (hT.vals 40 rfl 75 rfl)
     exact opk_gval hAp rfl rfl (g := true) (e := (((((decide (b < 0)) || (decide ((d.n : Int) ≤ b))) || (decide (c < 0))) || (decide ((f.n : Int) ≤ c))) || ((decide (0 < i)) && (decide (b ≤ j))))) rfl (fun hg => r_indexAddr (cv_get (hAp.get rfl) hg) (cv_get (hAp.get rfl) hg) tU31 ti_38 (bU ⟨⟨⟨⟨(of_decide_eq_false (b_or_f (b_or_f (b_or_f (b_or_f (g_f hg)).1).1).1).1), (of_decide_eq_false (b_or_f (b_or_f (b_or_f (b_or_f (g_f hg)).1).1).1).2)⟩, (of_decide_eq_false (b_or_f (b_or_f (b_or_f (g_f hg)).1).1).2)⟩, (of_decide_eq_false (b_or_f (b_or_f (g_f hg)).1).2)⟩, ((b_and_f (b_or_f (g_f hg)).2).imp (fun h => (of_decide_eq_false h)) (fun h => (of_decide_eq_false h)))⟩).1 (bU ⟨⟨⟨⟨(of_decide_eq_false (b_or_f (b_or_f (b_or_f (b_or_f (g_f hg)).1).1).1).1), (of_decide_eq_false (b_or_f (b_or_f (b_or_f (b_or_f (g_f hg)).1).1).1).2)⟩, (of_decide_eq_false (b_or_f (b_or_f (b_or_f (g_f hg)).1).1).2)⟩, (of_decide_eq_false (b_or_f (b_or_f (g_f hg)).1).2)⟩, ((b_and_f (b_or_f (g_f hg)).2).imp (fun h => (of_decide_eq_false h)) (fun h => (of_decide_eq_false h)))⟩).2) fun _ _ e => ⟨_, e, Chg.refl _ _, fun _ => Eq.refl _⟩
    ·intro a w hT
     have hAp := hT.ag k [] trivial (by kernel_rfl)
     have hAp := hAp.add (t := 72) (v := .bool (((((decide (b < 0)) || (decide ((d.n : Int) ≤ b))) || (decide (c < 0))) || (decide ((f.n : Int) ≤ c))) || ((decide (0 < i)) && (decide (b ≤ j))))) (hT.vals 37 rfl 72 rfl)
     have hAp := hAp.add (t := 76) (v := cV (true && ((((((decide (b < 0)) || (decide ((d.n : Int) ≤ b))) || (decide (c < 0))) || (decide ((f.n : Int) ≤ c))) || ((decide (0 < i)) && (decide (b ≤ j)))) == false)) (.pointer (some (aF.add (b.toNat * 15))))) (hT.vals 41 rfl 76 rfl)
     exact opk_gval hAp rfl rfl (g := true) (e := (((((decide (b < 0)) || (decide ((d.n : Int) ≤ b))) || (decide (c < 0))) || (decide ((f.n : Int) ≤ c))) || ((decide (0 < i)) && (decide (b ≤ j))))) rfl (fun hg => r_fieldAddr (cv_get (hAp.get rfl) hg) Try.underlying38 rfl ti_26 (by decide)) fun _ _ e => ⟨_, e, Chg.refl _ _, fun _ => Eq.refl _⟩
    ·intro a w hT
     have hAp := hT.ag k [] trivial (by kernel_rfl)
     have hAp := hAp.add (t := 72) (v := .bool (((((decide (b < 0)) || (decide ((d.n : Int) ≤ b))) || (decide (c < 0))) || (decide ((f.n : Int) ≤ c))) || ((decide (0 < i)) && (decide (b ≤ j))))) (hT.vals 37 rfl 72 rfl)
     have hAp := hAp.add (t := 77) (v := cV (true && ((((((decide (b < 0)) || (decide ((d.n : Int) ≤ b))) || (decide (c < 0))) || (decide ((f.n : Int) ≤ c))) || ((decide (0 < i)) && (decide (b ≤ j)))) == false)) (.pointer (some ((aF.add (b.toNat * 15)).add 5)))) (hT.vals 42 rfl 77 rfl)
     exact opk_gval hAp rfl rfl (g := true) (e := (((((decide (b < 0)) || (decide ((d.n : Int) ≤ b))) || (decide (c < 0))) || (decide ((f.n : Int) ≤ c))) || ((decide (0 < i)) && (decide (b ≤ j))))) rfl (fun hg => r_loadN Try.underlying26 rfl ti_26 (cv_get (hAp.get rfl) hg) ((dN ⟨⟨⟨⟨(of_decide_eq_false (b_or_f (b_or_f (b_or_f (b_or_f (g_f hg)).1).1).1).1), (of_decide_eq_false (b_or_f (b_or_f (b_or_f (b_or_f (g_f hg)).1).1).1).2)⟩, (of_decide_eq_false (b_or_f (b_or_f (b_or_f (g_f hg)).1).1).2)⟩, (of_decide_eq_false (b_or_f (b_or_f (g_f hg)).1).2)⟩, ((b_and_f (b_or_f (g_f hg)).2).imp (fun h => (of_decide_eq_false h)) (fun h => (of_decide_eq_false h)))⟩).ext hT.chg)) fun _ _ e => ⟨_, e, Chg.refl _ _, fun _ => Eq.refl _⟩
    ·intro a w hT
     have hAp := hT.ag k [(8, Sl.v f)] ⟨rfl, trivial⟩ (by kernel_rfl)
     have hAp := hAp.add (t := 72) (v := .bool (((((decide (b < 0)) || (decide ((d.n : Int) ≤ b))) || (decide (c < 0))) || (decide ((f.n : Int) ≤ c))) || ((decide (0 < i)) && (decide (b ≤ j))))) (hT.vals 37 rfl 72 rfl)
     exact opk_gval hAp rfl rfl (g := true) (e := (((((decide (b < 0)) || (decide ((d.n : Int) ≤ b))) || (decide (c < 0))) || (decide ((f.n : Int) ≤ c))) || ((decide (0 < i)) && (decide (b ≤ j))))) rfl (fun hg => r_move (hAp.get rfl)) fun _ _ e => ⟨_, e, Chg.refl _ _, fun _ => Eq.refl _⟩
    ·intro a w hT
     have hAp := hT.ag k [(11, pB m 0)] ⟨rfl, trivial⟩ (by kernel_rfl)
     have hAp := hAp.add (t := 72) (v := .bool (((((decide (b < 0)) || (decide ((d.n : Int) ≤ b))) || (decide (c < 0))) || (decide ((f.n : Int) ≤ c))) || ((decide (0 < i)) && (decide (b ≤ j))))) (hT.vals 37 rfl 72 rfl)
     exact opk_gval hAp rfl rfl (g := true) (e := (((((decide (b < 0)) || (decide ((d.n : Int) ≤ b))) || (decide (c < 0))) || (decide ((f.n : Int) ≤ c))) || ((decide (0 < i)) && (decide (b ≤ j))))) rfl (fun hg => r_fieldAddr (hAp.get rfl) Try.underlying40 rfl ti_3 (by decide)) fun _ _ e => ⟨_, e, Chg.refl _ _, fun _ => Eq.refl _⟩
    ·intro a w hT
     have hAp := hT.ag k [] trivial (by kernel_rfl)
     have hAp := hAp.add (t := 72) (v := .bool (((((decide (b < 0)) || (decide ((d.n : Int) ≤ b))) || (decide (c < 0))) || (decide ((f.n : Int) ≤ c))) || ((decide (0 < i)) && (decide (b ≤ j))))) (hT.vals 37 rfl 72 rfl)
     have hAp := hAp.add (t := 80) (v := cV (true && ((((((decide (b < 0)) || (decide ((d.n : Int) ≤ b))) || (decide (c < 0))) || (decide ((f.n : Int) ≤ c))) || ((decide (0 < i)) && (decide (b ≤ j)))) == false)) (pB m 1)) (hT.vals 45 rfl 80 rfl)
     exact opk_gval hAp rfl rfl (g := true) (e := (((((decide (b < 0)) || (decide ((d.n : Int) ≤ b))) || (decide (c < 0))) || (decide ((f.n : Int) ≤ c))) || ((decide (0 < i)) && (decide (b ≤ j))))) rfl (fun hg => r_load1 tU3 rfl (cv_get (hAp.get rfl) hg) ((az.ext hT.chg).cell 1 _ rfl)) fun _ _ e => ⟨_, e, Chg.refl _ _, fun _ => Eq.refl _⟩
    ·intro a w hT
     have hAp := hT.ag k [] trivial (by kernel_rfl)
     have hAp := hAp.add (t := 72) (v := .bool (((((decide (b < 0)) || (decide ((d.n : Int) ≤ b))) || (decide (c < 0))) || (decide ((f.n : Int) ≤ c))) || ((decide (0 < i)) && (decide (b ≤ j))))) (hT.vals 37 rfl 72 rfl)
     have hAp := hAp.add (t := 79) (v := cV (true && ((((((decide (b < 0)) || (decide ((d.n : Int) ≤ b))) || (decide (c < 0))) || (decide ((f.n : Int) ≤ c))) || ((decide (0 < i)) && (decide (b ≤ j)))) == false)) (Sl.v f)) (hT.vals 44 rfl 79 rfl)
     have hAp := hAp.add (t := 81) (v := cV (true && ((((((decide (b < 0)) || (decide ((d.n : Int) ≤ b))) || (decide (c < 0))) || (decide ((f.n : Int) ≤ c))) || ((decide (0 < i)) && (decide (b ≤ j)))) == false)) (.int .i64 c)) (hT.vals 46 rfl 81 rfl)
     exact opk_gval hAp rfl rfl (g := true) (e := (((((decide (b < 0)) || (decide ((d.n : Int) ≤ b))) || (decide (c < 0))) || (decide ((f.n : Int) ≤ c))) || ((decide (0 < i)) && (decide (b ≤ j))))) rfl (fun hg => r_indexAddr (cv_get (hAp.get rfl) hg) (cv_get (hAp.get rfl) hg) tU31 ti_38 (bV ⟨⟨⟨⟨(of_decide_eq_false (b_or_f (b_or_f (b_or_f (b_or_f (g_f hg)).1).1).1).1), (of_decide_eq_false (b_or_f (b_or_f (b_or_f (b_or_f (g_f hg)).1).1).1).2)⟩, (of_decide_eq_false (b_or_f (b_or_f (b_or_f (g_f hg)).1).1).2)⟩, (of_decide_eq_false (b_or_f (b_or_f (g_f hg)).1).2)⟩, ((b_and_f (b_or_f (g_f hg)).2).imp (fun h => (of_decide_eq_false h)) (fun h => (of_decide_eq_false h)))⟩).1 (bV ⟨⟨⟨⟨(of_decide_eq_false (b_or_f (b_or_f (b_or_f (b_or_f (g_f hg)).1).1).1).1), (of_decide_eq_false (b_or_f (b_or_f (b_or_f (b_or_f (g_f hg)).1).1).1).2)⟩, (of_decide_eq_false (b_or_f (b_or_f (b_or_f (g_f hg)).1).1).2)⟩, (of_decide_eq_false (b_or_f (b_or_f (g_f hg)).1).2)⟩, ((b_and_f (b_or_f (g_f hg)).2).imp (fun h => (of_decide_eq_false h)) (fun h => (of_decide_eq_false h)))⟩).2) fun _ _ e => ⟨_, e, Chg.refl _ _, fun _ => Eq.refl _⟩
    ·intro a w hT
     have hAp := hT.ag k [] trivial (by kernel_rfl)
     have hAp := hAp.add (t := 72) (v := .bool (((((decide (b < 0)) || (decide ((d.n : Int) ≤ b))) || (decide (c < 0))) || (decide ((f.n : Int) ≤ c))) || ((decide (0 < i)) && (decide (b ≤ j))))) (hT.vals 37 rfl 72 rfl)
     have hAp := hAp.add (t := 82) (v := cV (true && ((((((decide (b < 0)) || (decide ((d.n : Int) ≤ b))) || (decide (c < 0))) || (decide ((f.n : Int) ≤ c))) || ((decide (0 < i)) && (decide (b ≤ j)))) == false)) (.pointer (some (aG.add (c.toNat * 15))))) (hT.vals 47 rfl 82 rfl)
     exact opk_gval hAp rfl rfl (g := true) (e := (((((decide (b < 0)) || (decide ((d.n : Int) ≤ b))) || (decide (c < 0))) || (decide ((f.n : Int) ≤ c))) || ((decide (0 < i)) && (decide (b ≤ j))))) rfl (fun hg => r_fieldAddr (cv_get (hAp.get rfl) hg) Try.underlying38 rfl ti_26 (by decide)) fun _ _ e => ⟨_, e, Chg.refl _ _, fun _ => Eq.refl _⟩
    ·intro a w hT
     have hAp := hT.ag k [] trivial (by kernel_rfl)
     have hAp := hAp.add (t := 72) (v := .bool (((((decide (b < 0)) || (decide ((d.n : Int) ≤ b))) || (decide (c < 0))) || (decide ((f.n : Int) ≤ c))) || ((decide (0 < i)) && (decide (b ≤ j))))) (hT.vals 37 rfl 72 rfl)
     have hAp := hAp.add (t := 83) (v := cV (true && ((((((decide (b < 0)) || (decide ((d.n : Int) ≤ b))) || (decide (c < 0))) || (decide ((f.n : Int) ≤ c))) || ((decide (0 < i)) && (decide (b ≤ j)))) == false)) (.pointer (some ((aG.add (c.toNat * 15)).add 5)))) (hT.vals 48 rfl 83 rfl)
     exact opk_gval hAp rfl rfl (g := true) (e := (((((decide (b < 0)) || (decide ((d.n : Int) ≤ b))) || (decide (c < 0))) || (decide ((f.n : Int) ≤ c))) || ((decide (0 < i)) && (decide (b ≤ j))))) rfl (fun hg => r_loadN Try.underlying26 rfl ti_26 (cv_get (hAp.get rfl) hg) ((dQ ⟨⟨⟨⟨(of_decide_eq_false (b_or_f (b_or_f (b_or_f (b_or_f (g_f hg)).1).1).1).1), (of_decide_eq_false (b_or_f (b_or_f (b_or_f (b_or_f (g_f hg)).1).1).1).2)⟩, (of_decide_eq_false (b_or_f (b_or_f (b_or_f (g_f hg)).1).1).2)⟩, (of_decide_eq_false (b_or_f (b_or_f (g_f hg)).1).2)⟩, ((b_and_f (b_or_f (g_f hg)).2).imp (fun h => (of_decide_eq_false h)) (fun h => (of_decide_eq_false h)))⟩).ext hT.chg)) fun _ _ e => ⟨_, e, Chg.refl _ _, fun _ => Eq.refl _⟩
    ·intro a w hT
     have hAp := hT.ag k [] trivial (by kernel_rfl)
     have hAp := hAp.add (t := 72) (v := .bool (((((decide (b < 0)) || (decide ((d.n : Int) ≤ b))) || (decide (c < 0))) || (decide ((f.n : Int) ≤ c))) || ((decide (0 < i)) && (decide (b ≤ j))))) (hT.vals 37 rfl 72 rfl)
     have hAp := hAp.add (t := 78) (v := cV (true && ((((((decide (b < 0)) || (decide ((d.n : Int) ≤ b))) || (decide (c < 0))) || (decide ((f.n : Int) ≤ c))) || ((decide (0 < i)) && (decide (b ≤ j)))) == false)) (.agg #[.int .i64 aJ, .string (Bs aK), .string (Bs aL), Sl.v aM, Sl.v aN])) (hT.vals 43 rfl 78 rfl)
     have hAp := hAp.add (t := 84) (v := cV (true && ((((((decide (b < 0)) || (decide ((d.n : Int) ≤ b))) || (decide (c < 0))) || (decide ((f.n : Int) ≤ c))) || ((decide (0 < i)) && (decide (b ≤ j)))) == false)) (.agg #[.int .i64 aO, .string (Bs aP), .string (Bs aQ), Sl.v aR, Sl.v aS])) (hT.vals 49 rfl 84 rfl)
     exact opk_gcall hAp rfl rfl (g := true) (e := (((((decide (b < 0)) || (decide ((d.n : Int) ≤ b))) || (decide (c < 0))) || (decide ((f.n : Int) ≤ c))) || ((decide (0 < i)) && (decide (b ≤ j))))) rfl (fun hg => r_call (args := #[.agg #[.int .i64 aJ, .string (Bs aK), .string (Bs aL), Sl.v aM, Sl.v aN], .agg #[.int .i64 aO, .string (Bs aP), .string (Bs aQ), Sl.v aR, Sl.v aS]]) Try.func58 (by decide) rfl (map_arr (ml_cons (cv_get (hAp.get rfl) hg) (ml_cons (cv_get (hAp.get rfl) hg) ml_nil))) rfl) (fun hg => dS ⟨⟨⟨⟨(of_decide_eq_false (b_or_f (b_or_f (b_or_f (b_or_f (g_f hg)).1).1).1).1), (of_decide_eq_false (b_or_f (b_or_f (b_or_f (b_or_f (g_f hg)).1).1).1).2)⟩, (of_decide_eq_false (b_or_f (b_or_f (b_or_f (g_f hg)).1).1).2)⟩, (of_decide_eq_false (b_or_f (b_or_f (g_f hg)).1).2)⟩, ((b_and_f (b_or_f (g_f hg)).2).imp (fun h => (of_decide_eq_false h)) (fun h => (of_decide_eq_false h)))⟩ w hT.chg) fun _ _ _ e hE => ⟨_, e, hE, fun _ => Eq.refl _⟩
    ·intro a w hT
     have hAp := hT.ag k [] trivial (by kernel_rfl)
     have hAp := hAp.add (t := 72) (v := .bool (((((decide (b < 0)) || (decide ((d.n : Int) ≤ b))) || (decide (c < 0))) || (decide ((f.n : Int) ≤ c))) || ((decide (0 < i)) && (decide (b ≤ j))))) (hT.vals 37 rfl 72 rfl)
     have hAp := hAp.add (t := 85) (v := cV (true && ((((((decide (b < 0)) || (decide ((d.n : Int) ≤ b))) || (decide (c < 0))) || (decide ((f.n : Int) ≤ c))) || ((decide (0 < i)) && (decide (b ≤ j)))) == false)) (.bool ai)) (hT.vals 50 rfl 85 rfl)
     exact opk_gval hAp rfl rfl (g := true) (e := (((((decide (b < 0)) || (decide ((d.n : Int) ≤ b))) || (decide (c < 0))) || (decide ((f.n : Int) ≤ c))) || ((decide (0 < i)) && (decide (b ≤ j))))) rfl (fun hg => r_not (cv_get (hAp.get rfl) hg)) fun _ _ e => ⟨_, e, Chg.refl _ _, fun _ => Eq.refl _⟩
    ·intro a w hT
     have hAp := hT.ag k [] trivial (by kernel_rfl)
     have hAp := hAp.add (t := 72) (v := .bool (((((decide (b < 0)) || (decide ((d.n : Int) ≤ b))) || (decide (c < 0))) || (decide ((f.n : Int) ≤ c))) || ((decide (0 < i)) && (decide (b ≤ j))))) (hT.vals 37 rfl 72 rfl)
     have hAp := hAp.add (t := 86) (v := cV (true && ((((((decide (b < 0)) || (decide ((d.n : Int) ≤ b))) || (decide (c < 0))) || (decide ((f.n : Int) ≤ c))) || ((decide (0 < i)) && (decide (b ≤ j)))) == false)) (.bool (!ai))) (hT.vals 51 rfl 86 rfl)
     exact ovr hAp rfl (r_pick_or (g := (true && ((((((decide (b < 0)) || (decide ((d.n : Int) ≤ b))) || (decide (c < 0))) || (decide ((f.n : Int) ≤ c))) || ((decide (0 < i)) && (decide (b ≤ j)))) == false))) (hAp.get rfl) (hAp.get rfl) (fun he => g_mkf rfl he)) fun _ => Eq.refl _
    ·intro dT ao bY dU dV
     have dX := dU [(2, Sl.v l), (7, Sl.v d), (8, Sl.v f), (9, .bool o), (10, .int .i64 i), (11, pB m 0)] ⟨rfl, rfl, rfl, rfl, rfl, rfl, trivial⟩ (by kernel_rfl)
     have dY : dT.tmps.getD 87 undef = .bool ((((((decide (b < 0)) || (decide ((d.n : Int) ≤ b))) || (decide (c < 0))) || (decide ((f.n : Int) ≤ c))) || ((decide (0 < i)) && (decide (b ≤ j)))) || (!ai)) := dV 52 rfl 87 rfl
     have dZ := dX.add dY
     have d0 := az.ext bY
     have bZ : Chg [] ah ao := bY
     refine PR_end (by kernel_rfl) ?_
     have bd := dZ.kp [(2, Sl.v l), (7, Sl.v d), (8, Sl.v f), (9, .bool o), (10, .int .i64 i), (11, pB m 0), (87, .bool ((((((decide (b < 0)) || (decide ((d.n : Int) ≤ b))) || (decide (c < 0))) || (decide ((f.n : Int) ≤ c))) || ((decide (0 < i)) && (decide (b ≤ j)))) || (!ai)))] rfl
     refine then_normal ?_
     refine wp_cond_split (bd.get rfl) (fun hc => ?_) (fun hc => ?_)
     ·have d1 := bX.1 ((b_or_t hc).imp (fun h => ((b_or_t h).imp (fun h => ((b_or_t h).imp (fun h => ((b_or_t h).imp (fun h => ((b_or_t h).imp (fun h => (of_decide_eq_true h)) (fun h => (of_decide_eq_true h)))) (fun h => (of_decide_eq_true h)))) (fun h => (of_decide_eq_true h)))) (fun h => ⟨(of_decide_eq_true (b_and_t h).1), (of_decide_eq_true (b_and_t h).2)⟩))) (fun h => (b_not_t h)))
      clear hc
      refine wp_seq (wp_region_lit ?_)
      refine sqv bd rfl (r_assign rfl) fun _ d2 => sq_end ?_
      have b0 := d2.kp [(6, .bool false)] rfl
      refine then_normal ?_
      refine wp_ret ?_
      refine then_ret ?_
      refine block_ret ?_
      refine then_ret ?_
      refine then_ret ?_
      refine block_ret ?_
      refine then_ret ?_
      have d3 := d1 ao    bZ
      exact res_all (vs := [.bool false]) rfl b0 ⟨res_of_tmp b0 rfl, trivial⟩ d3
     ·have d4 := bX.2 ⟨⟨⟨⟨⟨(of_decide_eq_false (b_or_f (b_or_f (b_or_f (b_or_f (b_or_f hc).1).1).1).1).1), (of_decide_eq_false (b_or_f (b_or_f (b_or_f (b_or_f (b_or_f hc).1).1).1).1).2)⟩, (of_decide_eq_false (b_or_f (b_or_f (b_or_f (b_or_f hc).1).1).1).2)⟩, (of_decide_eq_false (b_or_f (b_or_f (b_or_f hc).1).1).2)⟩, ((b_and_f (b_or_f (b_or_f hc).1).2).imp (fun h => (of_decide_eq_false h)) (fun h => (of_decide_eq_false h)))⟩, (b_not_f (b_or_f hc).2)⟩
      clear hc
      refine wp_skip ?_
      refine then_normal (wp_seq (wp_seq (wp_region_lit ?_)))
      refine sqv bd rfl (r_assign rfl) fun _ d5 => sq_end ?_
      have d6 := d5.kp [(2, Sl.v l), (7, Sl.v d), (8, Sl.v f), (9, .bool o), (10, .int .i64 i), (11, pB m 0), (12, .int .i64 0)] rfl
      refine then_normal (wp_block ?_)
      have d7 := d4 ao    bZ
      obtain ⟨aX, aZ, d8, d9⟩ := d7
      refine wp_loop_st (σ := Int × World) (fun s a w => Ag 108 a [(2, Sl.v l), (7, Sl.v d), (8, Sl.v f), (9, .bool o), (10, .int .i64 i), (11, pB m 0), (12, .int .i64 s.1)] ∧ Box w m 40 [.int .i64 b, .int .i64 c] ∧ w = s.2 ∧ aX s.1 s.2) (fun s => aZ s.1 s.2) (0, ao) ⟨d6.kp [(2, Sl.v l), (7, Sl.v d), (8, Sl.v f), (9, .bool o), (10, .int .i64 i), (11, pB m 0), (12, .int .i64 0)] rfl, d0, rfl, d8⟩ ?_
      rintro ⟨p, aq⟩ f1 w_ ⟨b1, b2, hw_, fa⟩
      have hw_ : aq = w_ := hw_.symm
      subst hw_
      have b3 := d9 p _ fa
      refine wp_seq (wp_seq (wp_region_lit ?_))
      refine sqv b1 rfl (r_move (b1.get rfl)) fun _ b4 => sqv b4 rfl (r_move (b4.get rfl)) fun _ bf => sqv bf rfl (r_lss (bf.get rfl) (bf.get rfl)) fun _ fb => sq_end ?_
      have ak := fb.kp [(2, Sl.v l), (7, Sl.v d), (8, Sl.v f), (9, .bool o), (10, .int .i64 i), (11, pB m 0), (12, .int .i64 p), (90, .bool (decide (p < i)))] rfl
      refine then_normal ?_
      refine wp_cond_split (ak.get rfl) (fun hc => ?_) (fun hc => ?_)
      ·have fc := b3.1 (of_decide_eq_true hc)
       clear hc
       refine wp_skip ?_
       refine then_normal (wp_seq (wp_block (wp_seq ?_)))
       refine draw' (by kernel_rfl) fun ay b5 => ?_
       have b6 := b2.ext b5
       have fd : Chg [] aq ay := b5
       have ff := fc ay    fd
       obtain ⟨aH, b7, fg⟩ := ff
       obtain ⟨ar, fh, b8⟩ := fg
       refine par (D := [[], [], [0, 1], [0, 1, 2], [0, 1, 2, 3], [], [5], [0, 1, 2, 3, 4, 5, 6]]) (S := [0, 1, 2, 3, 4, 5, 6, 7]) (F := []) (V := VL [(0, fun v _ => v = Sl.v l), (1, fun v _ => v = .int .i64 p), (2, fun v _ => v = .pointer (some (aH.add (p.toNat * 2)))), (3, fun v _ => v = .pointer (some ((aH.add (p.toNat * 2)).add 1))), (4, fun v _ => v = .int .i64 ar), (5, fun v _ => v = pB m 1), (6, fun v _ => v = .int .i64 c), (7, fun v _ => v = .bool (decide (ar = c)))]) ak (by kernel_rfl) ⟨fun _ _ _ _ h => by first | exact h | (change _ = _ at h; change _ = _; exact h), fun _ _ _ _ h => by first | exact h | (change _ = _ at h; change _ = _; exact h), fun _ _ _ _ h => by first | exact h | (change _ = _ at h; change _ = _; exact h), fun _ _ _ _ h => by first | exact h | (change _ = _ at h; change _ = _; exact h), fun _ _ _ _ h => by first | exact h | (change _ = _ at h; change _ = _; exact h), fun _ _ _ _ h => by first | exact h | (change _ = _ at h; change _ = _; exact h), fun _ _ _ _ h => by first | exact h | (change _ = _ at h; change _ = _; exact h), fun _ _ _ _ h => by first | exact h | (change _ = _ at h; change _ = _; exact h), trivial⟩ ⟨?_, ?_, ?_, ?_, ?_, ?_, ?_, ?_, trivial⟩ ?_
       ·intro a w hT
        have hAp := hT.ag ak [(2, Sl.v l)] ⟨rfl, trivial⟩ (by kernel_rfl)
        exact ovr hAp rfl (r_move (hAp.get rfl)) fun _ => Eq.refl _
       ·intro a w hT
        have hAp := hT.ag ak [(12, .int .i64 p)] ⟨rfl, trivial⟩ (by kernel_rfl)
        exact ovr hAp rfl (r_move (hAp.get rfl)) fun _ => Eq.refl _
       ·intro a w hT
        have hAp := hT.ag ak [] trivial (by kernel_rfl)
        have hAp := hAp.add (t := 93) (v := Sl.v l) (hT.vals 0 rfl 93 rfl)
        have hAp := hAp.add (t := 94) (v := .int .i64 p) (hT.vals 1 rfl 94 rfl)
        exact ovr hAp rfl (r_indexAddr (hAp.get rfl) (hAp.get rfl) tU29 ti_40 b7.1 b7.2) fun _ => Eq.refl _
       ·intro a w hT
        have hAp := hT.ag ak [] trivial (by kernel_rfl)
        have hAp := hAp.add (t := 95) (v := .pointer (some (aH.add (p.toNat * 2)))) (hT.vals 2 rfl 95 rfl)
        exact ovr hAp rfl (r_fieldAddr (hAp.get rfl) Try.underlying40 rfl ti_3 (by decide)) fun _ => Eq.refl _
       ·intro a w hT
        have hAp := hT.ag ak [] trivial (by kernel_rfl)
        have hAp := hAp.add (t := 96) (v := .pointer (some ((aH.add (p.toNat * 2)).add 1))) (hT.vals 3 rfl 96 rfl)
        exact ovr hAp rfl (r_load1 tU3 rfl (hAp.get rfl) (Ext.cell hT.chg fh)) fun _ => Eq.refl _
       ·intro a w hT
        have hAp := hT.ag ak [(11, pB m 0)] ⟨rfl, trivial⟩ (by kernel_rfl)
        exact ovr hAp rfl (r_fieldAddr (hAp.get rfl) Try.underlying40 rfl ti_3 (by decide)) fun _ => Eq.refl _
       ·intro a w hT
        have hAp := hT.ag ak [] trivial (by kernel_rfl)
        have hAp := hAp.add (t := 98) (v := pB m 1) (hT.vals 5 rfl 98 rfl)
        exact ovr hAp rfl (r_load1 tU3 rfl (hAp.get rfl) ((b6.ext hT.chg).cell 1 _ rfl)) fun _ => Eq.refl _
       ·intro a w hT
        have hAp := hT.ag ak [] trivial (by kernel_rfl)
        have hAp := hAp.add (t := 97) (v := .int .i64 ar) (hT.vals 4 rfl 97 rfl)
        have hAp := hAp.add (t := 99) (v := .int .i64 c) (hT.vals 6 rfl 99 rfl)
        exact ovr hAp rfl (r_eql (hAp.get rfl) (hAp.get rfl)) fun _ => Eq.refl _
       ·intro fi aj b9 fj fk
        have fl := fj [(2, Sl.v l), (7, Sl.v d), (8, Sl.v f), (9, .bool o), (10, .int .i64 i), (11, pB m 0), (12, .int .i64 p)] ⟨rfl, rfl, rfl, rfl, rfl, rfl, rfl, trivial⟩ (by kernel_rfl)
        have fm : fi.tmps.getD 100 undef = .bool (decide (ar = c)) := fk 7 rfl 100 rfl
        have fn := fl.add fm
        have fo := b6.ext b9
        have ca : Chg [] ay aj := b9
        refine PR_end (by kernel_rfl) ?_
        have a3 := fn.kp [(2, Sl.v l), (7, Sl.v d), (8, Sl.v f), (9, .bool o), (10, .int .i64 i), (11, pB m 0), (12, .int .i64 p), (100, .bool (decide (ar = c)))] rfl
        refine then_normal ?_
        refine wp_cond_split (a3.get rfl) (fun hc => ?_) (fun hc => ?_)
        ·have fp := b8.1 (of_decide_eq_true hc)
         clear hc
         refine wp_seq (wp_region_lit ?_)
         refine sqv a3 rfl (r_assign rfl) fun _ fq => sq_end ?_
         have cb := fq.kp [(6, .bool false)] rfl
         refine then_normal ?_
         refine wp_ret ?_
         refine block_ret ?_
         refine then_ret ?_
         refine then_ret ?_
         refine block_ret ?_
         refine then_ret ?_
         refine block_ret ?_
         refine then_ret ?_
         refine then_ret ?_
         refine block_ret ?_
         refine then_ret ?_
         have fr := fp aj    ca
         exact res_all (vs := [.bool false]) rfl cb ⟨res_of_tmp cb rfl, trivial⟩ fr
        ·have fs := b8.2 (of_decide_eq_false hc)
         clear hc
         refine wp_skip ?_
         refine block_normal ?_
         refine then_normal (wp_region_lit ?_)
         refine sqv a3 rfl (r_move (a3.get rfl)) fun _ cc => ?_
         obtain ⟨ft, fu⟩ := fs
         refine sqv cc rfl (r_addI (cc.get rfl) rfl ft) fun _ cd => sqv cd rfl (r_assign (cd.get rfl)) fun _ fv => sq_end ?_
         have fx := fv.kp [(2, Sl.v l), (7, Sl.v d), (8, Sl.v f), (9, .bool o), (10, .int .i64 i), (11, pB m 0), (12, .int .i64 (p + 1))] rfl
         have cf := fu aj    ca
         have fy := fx.kp [(2, Sl.v l), (7, Sl.v d), (8, Sl.v f), (9, .bool o), (10, .int .i64 i), (11, pB m 0), (12, .int .i64 (p + 1))] rfl
         exact then_normal ⟨(p + 1, aj), ⟨fy, fo, rfl, cf.1⟩, cf.2⟩
      ·have fz := b3.2 (of_decide_eq_false hc)
       clear hc
       refine wp_exit ?_
       refine then_exit ?_
       refine then_exit ?_
       refine block_hit ?_
       have cg := ak.kp [(2, Sl.v l), (7, Sl.v d), (8, Sl.v f), (9, .bool o), (10, .int .i64 i), (11, pB m 0)] rfl
       refine then_normal (wp_region_lit ?_)
       refine sqv cg rfl (r_move (cg.get rfl)) fun _ ch => sqv ch rfl (r_move (ch.get rfl)) fun _ ci => ?_
       refine sq (opk_gval ci rfl rfl (g := true) (e := o) rfl (fun hg => r_loadN (cs := [.int .i64 b, .int .i64 c]) Try.underlying40 rfl ti_40 (ci.get rfl) (b2.part 0 _ rfl)) fun f2 fA _ => ?_)
       refine sq (opk_gval fA rfl rfl (g := true) (e := o) rfl (fun hg => r_build (vs := #[]) (cells := #[.int .i64 0, .int .i64 0]) (map_arr2 ml2_nil) ti_40 Try.underlying40 pl_40 (by kernel_rfl)) fun f3 bg _ => ?_)
       refine sq (opk_gval bg rfl rfl (g := true) (e := o) rfl (fun hg => r_aeql (cv_get (bg.get rfl) hg) (cv_get (bg.get rfl) hg) (eq_40 _ _ _ _)) fun f4 bh _ => ?_)
       refine sqv bh rfl (r_pick_or (g := (true && (o == false))) (bh.get rfl) (bh.get rfl) (fun he => g_mkf rfl he)) fun _ cj => sqv cj rfl (r_assign (cj.get rfl)) fun _ fB => sq_end ?_
       have ck := fB.kp [(2, Sl.v l), (7, Sl.v d), (8, Sl.v f), (9, .bool (o || (decide (b = 0 ∧ c = 0)))), (10, .int .i64 i)] rfl
       refine block_normal ?_
       refine then_normal (wp_region_lit ?_)
       refine sqv ck rfl (r_move (ck.get rfl)) fun _ cl => ?_
       obtain ⟨fC, cm⟩ := fz
       refine sqv cl rfl (r_addI (cl.get rfl) rfl fC) fun _ cn => sqv cn rfl (r_assign (cn.get rfl)) fun _ fD => sq_end ?_
       have fF := fD.kp [(2, Sl.v l), (7, Sl.v d), (8, Sl.v f), (9, .bool (o || (decide (b = 0 ∧ c = 0)))), (10, .int .i64 (i + 1))] rfl
       have fG := fF.kp [(2, Sl.v l), (7, Sl.v d), (8, Sl.v f), (9, .bool (o || (decide (b = 0 ∧ c = 0)))), (10, .int .i64 (i + 1))] rfl
       exact then_normal ⟨((o || (decide (b = 0 ∧ c = 0))), i + 1, aq), ⟨fG, rfl, cm.1⟩, cm.2⟩
   ·have fH := bK.2 (of_decide_eq_false hc)
    clear hc
    refine wp_exit ?_
    refine then_exit ?_
    refine then_exit ?_
    refine block_hit ?_
    have co := a2.kp [(9, .bool o)] rfl
    refine then_normal (wp_seq (wp_region_lit ?_))
    refine sqv co rfl (r_move (co.get rfl)) fun _ cp => sqv cp rfl (r_assign (cp.get rfl)) fun _ fI => sq_end ?_
    have cq := fI.kp [(6, .bool o)] rfl
    refine then_normal ?_
    refine wp_ret ?_
    exact res_all (vs := [.bool o]) rfl cq ⟨res_of_tmp cq rfl, trivial⟩ fH
end Go.Proofs.Yteohbfaechfliaa
