/-
  PRINTED BY PROGRAM: for each function its condition (vc), and that this suffices (ok).
-/
import Derived.Test.YteohbfaechfliaaQSlotsAllGT
namespace Go.Proofs.Yteohbfaechfliaa
open Go.RowKit
set_option linter.unusedVariables false
set_option maxHeartbeats 1000000
set_option maxRecDepth 10000
def law25_SlotsAll.vc (f : Int) (j : Str) (k : Str) (l : Sl) (m : Sl) (ah : Int) (ai : Str) (aj : Str) (ak : Sl) (al : Sl) (p : Sl) (an : Int) (R : Value → World → Prop) (w : World) : Prop :=
∀ (ay : World) (d : Nat) (am : Nat), New w d ay → New w am ay → d ≠ am → Chg [] w ay →
CallK Try.prog 18 #[.agg #[.int .i64 f, .string (Bs j), .string (Bs k), Sl.v l, Sl.v m]] ay [d, am] (fun v aB => ∃ (ao : Bool), v = .bool ao ∧
∃ (ap : Bool), (((ao = true)) → Calls Try.prog 18 #[.agg #[.int .i64 ah, .string (Bs ai), .string (Bs aj), Sl.v ak, Sl.v al]] aB (Ret fun v w' => Ext aB w' ∧ v = .bool ap)) ∧
(∀ av : World, Ext aB av →
((((ao = false) ∨ (ap = false)) ∨ (100 < (p.n : Int))) →
CallK Try.prog 14 #[] av [d, am] (fun v a8 => ∃ (aC : Bool), v = .bool aC ∧
R (.bool aC) a8)) ∧
((((ao = true) ∧ (ap = true)) ∧ (¬ (100 < (p.n : Int)))) →
∀ (aq : World), Chg [] av aq →
∃ az : Int → Str → Str → Sl → Sl → World → Prop, (∀ q : Int, ∀ r : Str, ∀ s : Str, ∀ u : Sl, ∀ x : Sl, ∀ w' w'' : World, Ext w' w'' → az q r s u x w' → az q r s u x w'') ∧
(∀ w' : World, Ext aq w' → Calls Try.prog 19 #[.agg #[.int .i64 f, .string (Bs j), .string (Bs k), Sl.v l, Sl.v m]] w' (Ret fun v w'' => Ext w' w'' ∧ ∃ q : Int, ∃ r : Str, ∃ s : Str, ∃ u : Sl, ∃ x : Sl, v = .agg #[.int .i64 q, .string (Bs r), .string (Bs s), Sl.v u, Sl.v x] ∧ az q r s u x w'')) ∧
∃ aA : Int → Str → Str → Sl → Sl → World → Prop, (∀ y : Int, ∀ z : Str, ∀ aa : Str, ∀ ab : Sl, ∀ ad : Sl, ∀ w' w'' : World, Ext w' w'' → aA y z aa ab ad w' → aA y z aa ab ad w'') ∧
(∀ w' : World, Ext aq w' → Calls Try.prog 19 #[.agg #[.int .i64 ah, .string (Bs ai), .string (Bs aj), Sl.v ak, Sl.v al]] w' (Ret fun v w'' => Ext w' w'' ∧ ∃ y : Int, ∃ z : Str, ∃ aa : Str, ∃ ab : Sl, ∃ ad : Sl, v = .agg #[.int .i64 y, .string (Bs z), .string (Bs aa), Sl.v ab, Sl.v ad] ∧ aA y z aa ab ad w'')) ∧
∀ (ax : World) (q : Int) (r : Str) (s : Str) (u : Sl) (x : Sl) (y : Int) (z : Str) (aa : Str) (ab : Sl) (ad : Sl), Ext aq ax → az q r s u x ax → aA y z aa ab ad ax → 
CallK Try.prog 20 #[Sl.v p] ax [d, am] (fun v a9 => ∃ (aK : Sl), v = Sl.v aK ∧
CallK Try.prog 12 #[.agg #[.int .i64 q, .string (Bs r), .string (Bs s), Sl.v u, Sl.v x], .agg #[.int .i64 y, .string (Bs z), .string (Bs aa), Sl.v ab, Sl.v ad], Sl.v aK] a9 [d, am] (fun v aT => ∃ (af : Sl) (b : Int), v = .tuple #[Sl.v af, .int .i64 b] ∧
∀ (aD : World), Chg [] aT aD →
CallK Try.prog 21 #[.agg #[.int .i64 f, .string (Bs j), .string (Bs k), Sl.v l, Sl.v m], .agg #[.int .i64 ah, .string (Bs ai), .string (Bs aj), Sl.v ak, Sl.v al], Sl.v p] aD [d, am] (fun v aL => ∃ (c : Option Addr), v = .pointer c ∧
(((((decide (b = 0)) == (!(Option.isNone c))) = false) ∨ ((b ≠ 0) ∧ ((b ≠ 1) ∨ ((af.n : Int) ≠ 0)))) →
R (.bool false) aL) ∧
(((((decide (b = 0)) == (!(Option.isNone c))) = true) ∧ ((¬ (b ≠ 0)) ∨ ((¬ (b ≠ 1)) ∧ (¬ ((af.n : Int) ≠ 0))))) →
(((Option.isNone c) = true) →
CallK Try.prog 14 #[] aL [d] (fun v ba => ∃ (aF : Bool), v = .bool aF ∧
R (.bool aF) ba)) ∧
(((Option.isNone c) = false) →
CallK Try.prog 22 #[.agg #[.int .i64 f, .string (Bs j), .string (Bs k), Sl.v l, Sl.v m], Sl.v af, .pointer c, .int .i64 an] aL [d] (fun v aG => ∃ (ar : Bool), v = .bool ar ∧
∃ (aH : Bool), (((ar = true)) → Calls Try.prog 14 #[] aG (Ret fun v w' => Ext aG w' ∧ v = .bool aH)) ∧
(∀ aI : World, Ext aG aI →
R (.bool (ar && aH)) aI))))))))))
theorem law25_SlotsAll.ok (f : Int) (j : Str) (k : Str) (l : Sl) (m : Sl) (ah : Int) (ai : Str) (aj : Str) (ak : Sl) (al : Sl) (p : Sl) (an : Int) {R : Value → World → Prop} {w : World} (bb : law25_SlotsAll.vc f j k l m ah ai aj ak al p an R w) : Calls Try.prog 5 #[.agg #[.int .i64 f, .string (Bs j), .string (Bs k), Sl.v l, Sl.v m], .agg #[.int .i64 ah, .string (Bs ai), .string (Bs aj), Sl.v ak, Sl.v al], Sl.v p, .int .i64 an] w (Ret R) := by
 refine enter [.agg #[.int .i64 f, .string (Bs j), .string (Bs k), Sl.v l, Sl.v m], .agg #[.int .i64 ah, .string (Bs ai), .string (Bs aj), Sl.v ak, Sl.v al], Sl.v p, .int .i64 an] Try.func5 rfl Try.ntmps5 rfl ?_
 intro a0 bd
 unfold law25_SlotsAll.vc at bb
 refine wp_seq (wp_region_lit ?_)
 refine sq (opk_new (fun B => .pointer (some ⟨B, 0, none⟩)) bd rfl (r_box (cs := [.int .i64 f, .string (Bs j), .string (Bs k), Sl.v l, Sl.v m]) (bd.get rfl) rfl) fun a7 w6 d cp cq bg bh _ => ?_)
 have cr : New w d w6 := cq
 have bi : Chg [] w w6 := cp
 refine sq (opk_new (fun B => .pointer (some ⟨B, 0, none⟩)) bh rfl (r_box (cs := [.int .i64 ah, .string (Bs ai), .string (Bs aj), Sl.v ak, Sl.v al]) (bh.get rfl) rfl) fun dS ay am aU bj ct cu _ => ?_)
 have cv : d ≠ am := Nat.ne_of_lt (Nat.lt_of_lt_of_le bg.lt bj.ge)
 have cx := New.of bi bj
 have bk := bg.ext aU
 have cy := bi.more aU
 have cz := cr.up aU.size
 refine sqv cu rfl (r_assign rfl) fun _ cA => sq_end ?_
 have bl := cA.kp [(2, Sl.v p), (3, .int .i64 an), (4, pB d 0), (5, pB am 0)] rfl
 refine then_normal (wp_seq (wp_seq (wp_region_lit ?_)))
 refine sqv bl rfl (r_loadN (cs := [.int .i64 f, .string (Bs j), .string (Bs k), Sl.v l, Sl.v m]) Try.underlying26 rfl ti_26 (bl.get rfl) (bk.part 0 _ rfl)) fun _ bm => ?_
 have cB := bb ay d am cz cx cv cy
 refine sq (opk_call bm rfl (r_call (args := #[.agg #[.int .i64 f, .string (Bs j), .string (Bs k), Sl.v l, Sl.v m]]) Try.func18 (by decide) rfl (map_arr (ml_cons (bm.get rfl) ml_nil)) rfl) cB fun dT dU aB bn _ bo dV cC => ?_)
 obtain ⟨ao, rfl, cD⟩ := cC
 have cF := bk.kept bo (.head _)
 have bp := ct.kept bo (.tail _ (.head _))
 refine sqv bn rfl (r_not (bn.get rfl)) fun _ bq => sqv bq rfl (r_move (bq.get rfl)) fun _ br => ?_
 refine sq (opk_gval br rfl rfl (g := true) (e := (!ao)) rfl (fun hg => r_loadN (cs := [.int .i64 ah, .string (Bs ai), .string (Bs aj), Sl.v ak, Sl.v al]) Try.underlying26 rfl ti_26 (br.get rfl) (bp.part 0 _ rfl)) fun dX bs _ => ?_)
 obtain ⟨ap, cG, cH⟩ := cD
 refine sq (opk_gcall bs rfl rfl (g := true) (e := (!ao)) rfl (fun hg => r_call (args := #[.agg #[.int .i64 ah, .string (Bs ai), .string (Bs aj), Sl.v ak, Sl.v al]]) Try.func18 (by decide) rfl (map_arr (ml_cons (cv_get (bs.get rfl) hg) ml_nil)) rfl) (fun hg => cG (b_not_f (g_f hg))) fun dY av bt _ aM => ?_)
 have bu := cF.ext aM
 have bv := bp.ext aM
 have dZ : Chg [] aB av := aM
 have bx := cH av aM
 refine sq (opk_gval bt rfl rfl (g := true) (e := (!ao)) rfl (fun hg => r_not (cv_get (bt.get rfl) hg)) fun d0 aV _ => ?_)
 refine sqv aV rfl (r_pick_or (g := (true && ((!ao) == false))) (aV.get rfl) (aV.get rfl) (fun he => g_mkf rfl he)) fun _ bz => sqv bz rfl (r_move (bz.get rfl)) fun _ bA => ?_
 refine sq (opk_gval bA rfl rfl (g := true) (e := ((!ao) || (!ap))) rfl (fun hg => r_move (bA.get rfl)) fun d1 bB _ => ?_)
 refine sq (opk_gval bB rfl rfl (g := true) (e := ((!ao) || (!ap))) rfl (fun hg => r_len (cv_get (bB.get rfl) hg) tU29) fun d2 bC _ => ?_)
 refine sq (opk_gval bC rfl rfl (g := true) (e := ((!ao) || (!ap))) rfl (fun hg => r_gtr (cv_get (bC.get rfl) hg) rfl) fun d3 aX _ => ?_)
 refine sqv aX rfl (r_pick_or (g := (true && (((!ao) || (!ap)) == false))) (aX.get rfl) (aX.get rfl) (fun he => g_mkf rfl he)) fun _ cI => sq_end ?_
 have au := cI.kp [(2, Sl.v p), (3, .int .i64 an), (4, pB d 0), (5, pB am 0), (24, .bool (((!ao) || (!ap)) || (decide (100 < (p.n : Int)))))] rfl
 refine then_normal ?_
 refine wp_cond_split (au.get rfl) (fun hc => ?_) (fun hc => ?_)
 ·have cJ := bx.1 ((b_or_t hc).imp (fun h => ((b_or_t h).imp (fun h => (b_not_t h)) (fun h => (b_not_t h)))) (fun h => (of_decide_eq_true h)))
  clear hc
  refine wp_seq (wp_region_lit ?_)
  refine sq (opk_call au rfl (r_call (args := #[]) Try.func14 (by decide) rfl (map_arr ml_nil) rfl) cJ fun d4 d5 a8 bD _ bF d6 cK => ?_)
  obtain ⟨aC, rfl, cL⟩ := cK
  have d7 := bu.kept bF (.head _)
  have d8 := bv.kept bF (.tail _ (.head _))
  refine sqv bD rfl (r_assign (bD.get rfl)) fun _ cM => sq_end ?_
  have bG := cM.kp [(8, .bool aC)] rfl
  refine then_normal ?_
  refine wp_ret ?_
  refine then_ret ?_
  exact res_all (vs := [.bool aC]) rfl bG ⟨res_of_tmp bG rfl, trivial⟩ cL
 ·have cN := bx.2 ⟨⟨(b_not_f (b_or_f (b_or_f hc).1).1), (b_not_f (b_or_f (b_or_f hc).1).2)⟩, (of_decide_eq_false (b_or_f hc).2)⟩
  clear hc
  refine wp_skip ?_
  refine then_normal (wp_seq ?_)
  refine draw' (by kernel_rfl) fun aq aY => ?_
  have bH := bu.ext aY
  have bI := bv.ext aY
  have cO : Chg [] av aq := aY
  have cP := cN aq    cO
  obtain ⟨az, cQ, cR, cS⟩ := cP
  obtain ⟨aA, cT, cU, cX⟩ := cS
  refine par (D := [[], [0], [], [0, 1, 2], [], [0, 1, 2, 3, 4], [0, 1, 2, 3, 4, 5], [0, 1, 2, 3, 4, 5, 6], [0, 1, 2, 3, 4, 5, 6, 7], [0, 1, 2, 3, 4, 5, 6, 7], [0, 1, 2, 3, 4, 5, 6, 7, 8], [0, 1, 2, 3, 4, 5, 6, 7, 8, 9, 10]]) (S := [0, 1, 2, 3, 4]) (F := []) (V := VL [(0, fun v _ => v = .agg #[.int .i64 f, .string (Bs j), .string (Bs k), Sl.v l, Sl.v m]), (1, fun v w' => ∃ q : Int, ∃ r : Str, ∃ s : Str, ∃ u : Sl, ∃ x : Sl, az q r s u x w' ∧ v = .agg #[.int .i64 q, .string (Bs r), .string (Bs s), Sl.v u, Sl.v x]), (2, fun v _ => v = .agg #[.int .i64 ah, .string (Bs ai), .string (Bs aj), Sl.v ak, Sl.v al]), (3, fun v w' => ∃ y : Int, ∃ z : Str, ∃ aa : Str, ∃ ab : Sl, ∃ ad : Sl, aA y z aa ab ad w' ∧ v = .agg #[.int .i64 y, .string (Bs z), .string (Bs aa), Sl.v ab, Sl.v ad]), (4, fun v _ => v = Sl.v p)]) au (by kernel_rfl) ⟨fun _ _ _ _ h => h, fun _ _ _ hE ⟨q, r, s, u, x, h0_, e⟩ => ⟨q, r, s, u, x, (cQ q r s u x _ _ hE h0_), e⟩, fun _ _ _ _ h => h, fun _ _ _ hE ⟨y, z, aa, ab, ad, h0_, e⟩ => ⟨y, z, aa, ab, ad, (cT y z aa ab ad _ _ hE h0_), e⟩, fun _ _ _ _ h => h, trivial⟩ ⟨?_, ?_, ?_, ?_, ?_, trivial⟩ ?_
  ·intro a w hT
   have hAp := hT.ag au [(4, pB d 0)] ⟨rfl, trivial⟩ (by kernel_rfl)
   exact ovr hAp rfl (r_loadN (cs := [.int .i64 f, .string (Bs j), .string (Bs k), Sl.v l, Sl.v m]) Try.underlying26 rfl ti_26 (hAp.get rfl) ((bH.ext hT.chg).part 0 _ rfl)) fun _ => Eq.refl _
  ·intro a w hT
   have hAp := hT.ag au [] trivial (by kernel_rfl)
   have hAp := hAp.add (t := 27) (v := .agg #[.int .i64 f, .string (Bs j), .string (Bs k), Sl.v l, Sl.v m]) (hT.vals 0 rfl 27 rfl)
   exact opk_callX hAp rfl (r_call (args := #[.agg #[.int .i64 f, .string (Bs j), .string (Bs k), Sl.v l, Sl.v m]]) Try.func19 (by decide) rfl (map_arr (ml_cons (hAp.get rfl) ml_nil)) rfl) (cR w hT.chg) fun _ _ _ _ e ⟨hE, q, r, s, u, x, he, hV⟩ => ⟨_, e, hE, fun _ => ⟨q, r, s, u, x, hV, he⟩⟩
  ·intro a w hT
   have hAp := hT.ag au [(5, pB am 0)] ⟨rfl, trivial⟩ (by kernel_rfl)
   exact ovr hAp rfl (r_loadN (cs := [.int .i64 ah, .string (Bs ai), .string (Bs aj), Sl.v ak, Sl.v al]) Try.underlying26 rfl ti_26 (hAp.get rfl) ((bI.ext hT.chg).part 0 _ rfl)) fun _ => Eq.refl _
  ·intro a w hT
   have hAp := hT.ag au [] trivial (by kernel_rfl)
   have hAp := hAp.add (t := 29) (v := .agg #[.int .i64 ah, .string (Bs ai), .string (Bs aj), Sl.v ak, Sl.v al]) (hT.vals 2 rfl 29 rfl)
   exact opk_callX hAp rfl (r_call (args := #[.agg #[.int .i64 ah, .string (Bs ai), .string (Bs aj), Sl.v ak, Sl.v al]]) Try.func19 (by decide) rfl (map_arr (ml_cons (hAp.get rfl) ml_nil)) rfl) (cU w hT.chg) fun _ _ _ _ e ⟨hE, y, z, aa, ab, ad, he, hV⟩ => ⟨_, e, hE, fun _ => ⟨y, z, aa, ab, ad, hV, he⟩⟩
  ·intro a w hT
   have hAp := hT.ag au [(2, Sl.v p)] ⟨rfl, trivial⟩ (by kernel_rfl)
   exact ovr hAp rfl (r_move (hAp.get rfl)) fun _ => Eq.refl _
  ·intro cY ax aN cZ aZ
   have c0 := cZ [(2, Sl.v p), (3, .int .i64 an), (4, pB d 0), (5, pB am 0)] ⟨rfl, rfl, rfl, rfl, trivial⟩ (by kernel_rfl)
   obtain ⟨q, r, s, u, x, c1, c2⟩ := aZ 1 rfl 28 rfl
   have c3 := c0.add c2
   obtain ⟨y, z, aa, ab, ad, c4, c5⟩ := aZ 3 rfl 30 rfl
   have c6 := c3.add c5
   have c7 : cY.tmps.getD 31 undef = Sl.v p := aZ 4 rfl 31 rfl
   have bJ := c6.add c7
   have c8 := bH.ext aN
   have c9 := bI.ext aN
   have d9 : Chg [] aq ax := aN
   have da := cX ax q r s u x y z aa ab ad aN c1 c4
   refine one (D := [[], [0], [], [0, 1, 2], [], [0, 1, 2, 3, 4], [0, 1, 2, 3, 4, 5], [0, 1, 2, 3, 4, 5, 6], [0, 1, 2, 3, 4, 5, 6, 7], [0, 1, 2, 3, 4, 5, 6, 7], [0, 1, 2, 3, 4, 5, 6, 7, 8], [0, 1, 2, 3, 4, 5, 6, 7, 8, 9, 10]]) (i := 5) rfl (by kernel_rfl) (opk_call bJ rfl (r_call (args := #[Sl.v p]) Try.func20 (by decide) rfl (map_arr (ml_cons (bJ.get rfl) ml_nil)) rfl) da fun fa fb a9 aO _ bK fc db => ?_)
   obtain ⟨aK, rfl, dc⟩ := db
   have dd := c8.kept bK (.head _)
   have df := c9.kept bK (.tail _ (.head _))
   refine one (D := [[], [0], [], [0, 1, 2], [], [0, 1, 2, 3, 4], [0, 1, 2, 3, 4, 5], [0, 1, 2, 3, 4, 5, 6], [0, 1, 2, 3, 4, 5, 6, 7], [0, 1, 2, 3, 4, 5, 6, 7], [0, 1, 2, 3, 4, 5, 6, 7, 8], [0, 1, 2, 3, 4, 5, 6, 7, 8, 9, 10]]) (i := 6) rfl (by kernel_rfl) (opk_call aO rfl (r_call (args := #[.agg #[.int .i64 q, .string (Bs r), .string (Bs s), Sl.v u, Sl.v x], .agg #[.int .i64 y, .string (Bs z), .string (Bs aa), Sl.v ab, Sl.v ad], Sl.v aK]) Try.func12 (by decide) rfl (map_arr (ml_cons (aO.get rfl) (ml_cons (aO.get rfl) (ml_cons (aO.get rfl) ml_nil)))) rfl) dc fun fd ff aT bL _ bM fg dg => ?_)
   obtain ⟨af, b, rfl, dh⟩ := dg
   have di := dd.kept bM (.head _)
   have dj := df.kept bM (.tail _ (.head _))
   refine one (D := [[], [0], [], [0, 1, 2], [], [0, 1, 2, 3, 4], [0, 1, 2, 3, 4, 5], [0, 1, 2, 3, 4, 5, 6], [0, 1, 2, 3, 4, 5, 6, 7], [0, 1, 2, 3, 4, 5, 6, 7], [0, 1, 2, 3, 4, 5, 6, 7, 8], [0, 1, 2, 3, 4, 5, 6, 7, 8, 9, 10]]) (i := 7) rfl (by kernel_rfl) (opk_val bL rfl (r_move (bL.get rfl)) fun fh aP _ => ?_)
   refine par (D := [[], [0], [], [0, 1, 2], [], [0, 1, 2, 3, 4], [0, 1, 2, 3, 4, 5], [0, 1, 2, 3, 4, 5, 6], [0, 1, 2, 3, 4, 5, 6, 7], [0, 1, 2, 3, 4, 5, 6, 7], [0, 1, 2, 3, 4, 5, 6, 7, 8], [0, 1, 2, 3, 4, 5, 6, 7, 8, 9, 10]]) (S := [8, 9, 10]) (F := []) (V := VL [(8, fun v _ => v = Sl.v af), (9, fun v _ => v = .int .i64 b), (10, fun v _ => v = Sl.v af)]) aP (by kernel_rfl) ⟨fun _ _ _ _ h => h, fun _ _ _ _ h => h, fun _ _ _ _ h => h, trivial⟩ ⟨?_, ?_, ?_, trivial⟩ ?_
   ·intro a w hT
    have hAp := hT.ag aP [(26, .tuple #[Sl.v af, .int .i64 b])] ⟨rfl, trivial⟩ (by kernel_rfl)
    exact ovr hAp rfl (r_extract (hAp.get rfl) rfl) fun _ => Eq.refl _
   ·intro a w hT
    have hAp := hT.ag aP [(26, .tuple #[Sl.v af, .int .i64 b])] ⟨rfl, trivial⟩ (by kernel_rfl)
    exact ovr hAp rfl (r_extract (hAp.get rfl) rfl) fun _ => Eq.refl _
   ·intro a w hT
    have hAp := hT.ag aP [] trivial (by kernel_rfl)
    have hAp := hAp.add (t := 34) (v := Sl.v af) (hT.vals 8 rfl 34 rfl)
    exact ovr hAp rfl (r_assign (hAp.get rfl)) fun _ => Eq.refl _
   ·intro bN aD hE134 dk bO
    have dl := dk [(2, Sl.v p), (3, .int .i64 an), (4, pB d 0), (5, pB am 0)] ⟨rfl, rfl, rfl, rfl, trivial⟩ (by kernel_rfl)
    have dm : bN.tmps.getD 35 undef = .int .i64 b := bO 9 rfl 35 rfl
    have dn := dl.add dm
    have dp : bN.tmps.getD 9 undef = Sl.v af := bO 10 rfl 9 rfl
    have bP := dn.add dp
    have bQ := di.ext hE134
    have bR := dj.ext hE134
    have dq : Chg [] aT aD := hE134
    refine one (D := [[], [0], [], [0, 1, 2], [], [0, 1, 2, 3, 4], [0, 1, 2, 3, 4, 5], [0, 1, 2, 3, 4, 5, 6], [0, 1, 2, 3, 4, 5, 6, 7], [0, 1, 2, 3, 4, 5, 6, 7], [0, 1, 2, 3, 4, 5, 6, 7, 8], [0, 1, 2, 3, 4, 5, 6, 7, 8, 9, 10]]) (i := 11) rfl (by kernel_rfl) (opk_val bP rfl (r_assign (bP.get rfl)) fun fi dr _ => ?_)
    refine PR_end (by kernel_rfl) ?_
    have bS := dr.kp [(2, Sl.v p), (3, .int .i64 an), (4, pB d 0), (5, pB am 0), (9, Sl.v af), (10, .int .i64 b)] rfl
    refine then_normal (wp_seq (wp_region_lit ?_))
    refine sqv bS rfl (r_loadN (cs := [.int .i64 f, .string (Bs j), .string (Bs k), Sl.v l, Sl.v m]) Try.underlying26 rfl ti_26 (bS.get rfl) (bQ.part 0 _ rfl)) fun _ bT => sqv bT rfl (r_loadN (cs := [.int .i64 ah, .string (Bs ai), .string (Bs aj), Sl.v ak, Sl.v al]) Try.underlying26 rfl ti_26 (bT.get rfl) (bR.part 0 _ rfl)) fun _ bU => sqv bU rfl (r_move (bU.get rfl)) fun _ aQ => ?_
    have ds := dh aD    dq
    refine sq (opk_call aQ rfl (r_call (args := #[.agg #[.int .i64 f, .string (Bs j), .string (Bs k), Sl.v l, Sl.v m], .agg #[.int .i64 ah, .string (Bs ai), .string (Bs aj), Sl.v ak, Sl.v al], Sl.v p]) Try.func21 (by decide) rfl (map_arr (ml_cons (aQ.get rfl) (ml_cons (aQ.get rfl) (ml_cons (aQ.get rfl) ml_nil)))) rfl) ds fun fj fk aL bV _ bX fl dt => ?_)
    obtain ⟨c, rfl, bY⟩ := dt
    have a1 := bQ.kept bX (.head _)
    have fm := bR.kept bX (.tail _ (.head _))
    refine sqv bV rfl (r_assign (bV.get rfl)) fun _ du => sq_end ?_
    have bZ := du.kp [(3, .int .i64 an), (4, pB d 0), (9, Sl.v af), (10, .int .i64 b), (11, .pointer c)] rfl
    refine then_normal (wp_seq (wp_seq (wp_region_lit ?_)))
    refine sqv bZ rfl (r_move (bZ.get rfl)) fun _ b0 => sqv b0 rfl (r_eql (b0.get rfl) rfl) fun _ b1 => sqv b1 rfl (r_move (b1.get rfl)) fun _ b2 => sqv b2 rfl (r_pnnil (o := c) (b2.get rfl) rfl tU57) fun _ a2 => sqv a2 rfl (r_bneq (a2.get rfl) (a2.get rfl) tU4) fun _ b3 => sqv b3 rfl (r_move (b3.get rfl)) fun _ b4 => ?_
    refine sq (opk_gval b4 rfl rfl (g := true) (e := (!((decide (b = 0)) == (!(Option.isNone c))))) rfl (fun hg => r_move (b4.get rfl)) fun fn b5 _ => ?_)
    refine sq (opk_gval b5 rfl rfl (g := true) (e := (!((decide (b = 0)) == (!(Option.isNone c))))) rfl (fun hg => r_neq (cv_get (b5.get rfl) hg) rfl) fun fo b6 _ => ?_)
    refine sq (opk_gval b6 rfl rfl (g := true) (e := (!((decide (b = 0)) == (!(Option.isNone c))))) rfl (fun hg => r_move (cv_get (b6.get rfl) hg)) fun fp b7 _ => ?_)
    refine sq (opk_gval b7 rfl rfl (g := (true && ((!((decide (b = 0)) == (!(Option.isNone c)))) == false))) (e := (decide (b ≠ 0))) rfl (fun hg => r_move (b7.get rfl)) fun fq b8 _ => ?_)
    refine sq (opk_gval b8 rfl rfl (g := (true && ((!((decide (b = 0)) == (!(Option.isNone c)))) == false))) (e := (decide (b ≠ 0))) rfl (fun hg => r_neq (cv_get (b8.get rfl) hg) rfl) fun fr b9 _ => ?_)
    refine sq (opk_gval b9 rfl rfl (g := (true && ((!((decide (b = 0)) == (!(Option.isNone c)))) == false))) (e := (decide (b ≠ 0))) rfl (fun hg => r_move (cv_get (b9.get rfl) hg)) fun fs ca _ => ?_)
    refine sq (opk_gval ca rfl rfl (g := ((true && ((!((decide (b = 0)) == (!(Option.isNone c)))) == false)) && ((decide (b ≠ 0)) == true))) (e := (decide (b ≠ 1))) rfl (fun hg => r_move (ca.get rfl)) fun ft cb _ => ?_)
    refine sq (opk_gval cb rfl rfl (g := ((true && ((!((decide (b = 0)) == (!(Option.isNone c)))) == false)) && ((decide (b ≠ 0)) == true))) (e := (decide (b ≠ 1))) rfl (fun hg => r_len (cv_get (cb.get rfl) hg) tU33) fun fu cc _ => ?_)
    refine sq (opk_gval cc rfl rfl (g := ((true && ((!((decide (b = 0)) == (!(Option.isNone c)))) == false)) && ((decide (b ≠ 0)) == true))) (e := (decide (b ≠ 1))) rfl (fun hg => r_neq (cv_get (cc.get rfl) hg) rfl) fun fv a3 _ => ?_)
    refine sq (opk_gval a3 rfl rfl (g := (true && ((!((decide (b = 0)) == (!(Option.isNone c)))) == false))) (e := (decide (b ≠ 0))) rfl (fun hg => r_pick_or (g := (((true && ((!((decide (b = 0)) == (!(Option.isNone c)))) == false)) && ((decide (b ≠ 0)) == true)) && ((decide (b ≠ 1)) == false))) (cv_get (a3.get rfl) hg) (a3.get rfl) (fun he => g_mkf hg he)) fun fx a4 _ => ?_)
    refine sq (opk_gval a4 rfl rfl (g := true) (e := (!((decide (b = 0)) == (!(Option.isNone c))))) rfl (fun hg => r_pick_and (g := ((true && ((!((decide (b = 0)) == (!(Option.isNone c)))) == false)) && ((decide (b ≠ 0)) == true))) (cv_get (a4.get rfl) hg) (a4.get rfl) (fun he => g_mkt hg he)) fun fy a5 _ => ?_)
    refine sqv a5 rfl (r_pick_or (g := (true && ((!((decide (b = 0)) == (!(Option.isNone c)))) == false))) (a5.get rfl) (a5.get rfl) (fun he => g_mkf rfl he)) fun _ dv => sq_end ?_
    have aR := dv.kp [(3, .int .i64 an), (4, pB d 0), (9, Sl.v af), (11, .pointer c), (57, .bool ((!((decide (b = 0)) == (!(Option.isNone c)))) || ((decide (b ≠ 0)) && ((decide (b ≠ 1)) || (decide ((af.n : Int) ≠ 0))))))] rfl
    refine then_normal ?_
    refine wp_cond_split (aR.get rfl) (fun hc => ?_) (fun hc => ?_)
    ·have dx := bY.1 ((b_or_t hc).imp (fun h => (b_not_t h)) (fun h => ⟨(of_decide_eq_true (b_and_t h).1), ((b_or_t (b_and_t h).2).imp (fun h => (of_decide_eq_true h)) (fun h => (of_decide_eq_true h)))⟩))
     clear hc
     refine wp_seq (wp_region_lit ?_)
     refine sqv aR rfl (r_assign rfl) fun _ dy => sq_end ?_
     have cd := dy.kp [(8, .bool false)] rfl
     refine then_normal ?_
     refine wp_ret ?_
     refine then_ret ?_
     exact res_all (vs := [.bool false]) rfl cd ⟨res_of_tmp cd rfl, trivial⟩ dx
    ·have cf := bY.2 ⟨(b_not_f (b_or_f hc).1), ((b_and_f (b_or_f hc).2).imp (fun h => (of_decide_eq_false h)) (fun h => ⟨(of_decide_eq_false (b_or_f h).1), (of_decide_eq_false (b_or_f h).2)⟩))⟩
     clear hc
     refine wp_skip ?_
     refine then_normal (wp_seq (wp_seq (wp_region_lit ?_)))
     refine sqv aR rfl (r_move (aR.get rfl)) fun _ cg => sqv cg rfl (r_pnil (o := c) (cg.get rfl) rfl tU57) fun _ dz => sq_end ?_
     have aS := dz.kp [(3, .int .i64 an), (4, pB d 0), (9, Sl.v af), (11, .pointer c), (59, .bool (Option.isNone c))] rfl
     refine then_normal ?_
     refine wp_cond_split (aS.get rfl) (fun hc => ?_) (fun hc => ?_)
     ·have dA := cf.1 hc
      clear hc
      refine wp_seq (wp_region_lit ?_)
      refine sq (opk_call aS rfl (r_call (args := #[]) Try.func14 (by decide) rfl (map_arr ml_nil) rfl) dA fun fz fA ba ch _ dB fB dC => ?_)
      obtain ⟨aF, rfl, dD⟩ := dC
      have fC := a1.kept dB (.head _)
      refine sqv ch rfl (r_assign (ch.get rfl)) fun _ dF => sq_end ?_
      have ci := dF.kp [(8, .bool aF)] rfl
      refine then_normal ?_
      refine wp_ret ?_
      refine then_ret ?_
      exact res_all (vs := [.bool aF]) rfl ci ⟨res_of_tmp ci rfl, trivial⟩ dD
     ·have dG := cf.2 hc
      clear hc
      refine wp_skip ?_
      refine then_normal (wp_seq (wp_region_lit ?_))
      refine sqv aS rfl (r_loadN (cs := [.int .i64 f, .string (Bs j), .string (Bs k), Sl.v l, Sl.v m]) Try.underlying26 rfl ti_26 (aS.get rfl) (a1.part 0 _ rfl)) fun _ cj => sqv cj rfl (r_move (cj.get rfl)) fun _ ck => sqv ck rfl (r_move (ck.get rfl)) fun _ cl => sqv cl rfl (r_move (cl.get rfl)) fun _ aJ => ?_
      refine sq (opk_call aJ rfl (r_call (args := #[.agg #[.int .i64 f, .string (Bs j), .string (Bs k), Sl.v l, Sl.v m], Sl.v af, .pointer c, .int .i64 an]) Try.func22 (by decide) rfl (map_arr (ml_cons (aJ.get rfl) (ml_cons (aJ.get rfl) (ml_cons (aJ.get rfl) (ml_cons (aJ.get rfl) ml_nil))))) rfl) dG fun fD fF aG cm _ dH fG dI => ?_)
      obtain ⟨ar, rfl, dJ⟩ := dI
      have dK := a1.kept dH (.head _)
      refine sqv cm rfl (r_move (cm.get rfl)) fun _ dL => ?_
      obtain ⟨aH, dM, dN⟩ := dJ
      refine sq (opk_gcall dL rfl rfl (g := true) (e := ar) rfl (fun hg => r_call (args := #[]) Try.func14 (by decide) rfl (map_arr ml_nil) rfl) (fun hg => dM (g_t hg)) fun fH aI a6 _ hE221 => ?_)
      have fI := dK.ext hE221
      have fJ : Chg [] aG aI := hE221
      have dO := dN aI hE221
      refine sqv a6 rfl (r_pick_and (g := (true && (ar == true))) (a6.get rfl) (a6.get rfl) (fun he => g_mkt rfl he)) fun _ cn => sqv cn rfl (r_assign (cn.get rfl)) fun _ dP => sq_end ?_
      have co := dP.kp [(8, .bool (ar && aH))] rfl
      refine then_normal ?_
      refine wp_ret ?_
      exact res_all (vs := [.bool (ar && aH)]) rfl co ⟨res_of_tmp co rfl, trivial⟩ dO
end Go.Proofs.Yteohbfaechfliaa
