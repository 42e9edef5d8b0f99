/-
  PRINTED BY PROGRAM: for each function its condition (vc), and that this suffices (ok).
-/
import Derived.Test.YteohbfaechfliaaQSlotsAllGT
namespace Go.Proofs.Yteohbfaechfliaa
open Go.RowKit
set_option linter.unusedVariables false
set_option maxHeartbeats 1000000
set_option maxRecDepth 10000
def law25_same.vc (b : Bool) (d : Bool) (ab : Sl) (j : Sl) (p : Int) (ad : Sl) (c : Bool) (f : Bool) (af : Sl) (k : Sl) (q : Int) (ah : Sl) (R : Value → World → Prop) (w : World) : Prop :=
∀ (x : World) (m : Nat) (o : Nat), New w m x → New w o x → m ≠ o → Chg [] w x →
∃ (l : Bool), (((((b == c) = true) ∧ ((d == f) = true))) → Calls Try.prog 69 #[Sl.v ab, Sl.v af] x (Ret fun v w' => Ext x w' ∧ v = .bool l)) ∧
(∀ ai : World, Ext x ai →
∃ (al : Bool), ((((((((b == c) = true) ∧ ((d == f) = true)) ∧ (l = true)) ∧ (¬ ((j.n : Int) ≠ (k.n : Int)))) ∧ (¬ (p ≠ q)))) → Calls Try.prog 23 #[Sl.v ad, Sl.v ah] ai (Ret fun v w' => Ext ai w' ∧ v = .bool al)) ∧
(∀ aj : World, Ext ai aj →
((((((((b == c) = false) ∨ ((d == f) = false)) ∨ (l = false)) ∨ ((j.n : Int) ≠ (k.n : Int))) ∨ (p ≠ q)) ∨ (al = false)) →
R (.bool false) aj) ∧
((((((((b == c) = true) ∧ ((d == f) = true)) ∧ (l = true)) ∧ (¬ ((j.n : Int) ≠ (k.n : Int)))) ∧ (¬ (p ≠ q))) ∧ (al = true)) →
∃ (am : Int → World → Prop) (ap : Int → World → Nat),
am 0 aj ∧
(∀ (i : Int) (ak : World), am i ak →
((i < (j.n : Int)) →
∀ (y : World), Chg [] ak y →
∃ an : Addr, (((0 : Int) ≤ i ∧ i < (j.n : Int)) ∧ j.a = some an) ∧
∃ (z : Str), (y.cell? (an.add (i.toNat * 1)) = some (.string (Bs z))) ∧
∃ ao : Addr, (((0 : Int) ≤ i ∧ i < (k.n : Int)) ∧ k.a = some ao) ∧
∃ (aa : Str), (y.cell? (ao.add (i.toNat * 1)) = some (.string (Bs aa))) ∧
((z ≠ aa) →
∀ (u : World), Chg [] y u →
R (.bool false) u) ∧
((¬ (z ≠ aa)) →
(I64 (i + 1)) ∧
∀ (u : World), Chg [] y u →
am (i + 1) u ∧ ap (i + 1) u < ap i ak)) ∧
((¬ (i < (j.n : Int))) →
R (.bool true) ak)))))
theorem law25_same.ok (b : Bool) (d : Bool) (ab : Sl) (j : Sl) (p : Int) (ad : Sl) (c : Bool) (f : Bool) (af : Sl) (k : Sl) (q : Int) (ah : Sl) {R : Value → World → Prop} {w : World} (aR : law25_same.vc b d ab j p ad c f af k q ah R w) : Calls Try.prog 47 #[.agg #[.bool b, .bool d, Sl.v ab, Sl.v j, .int .i64 p, Sl.v ad], .agg #[.bool c, .bool f, Sl.v af, Sl.v k, .int .i64 q, Sl.v ah]] w (Ret R) := by
 refine enter [.agg #[.bool b, .bool d, Sl.v ab, Sl.v j, .int .i64 p, Sl.v ad], .agg #[.bool c, .bool f, Sl.v af, Sl.v k, .int .i64 q, Sl.v ah]] Try.func47 rfl Try.ntmps47 rfl ?_
 intro a0 aS
 unfold law25_same.vc at aR
 refine wp_seq (wp_region_lit ?_)
 refine sq (opk_new (fun B => .pointer (some ⟨B, 0, none⟩)) aS rfl (r_box (cs := [.bool b, .bool d, Sl.v ab, Sl.v j, .int .i64 p, Sl.v ad]) (aS.get rfl) rfl) fun a5 w4 m bU bV aU aV _ => ?_)
 have bX : New w m w4 := bV
 have aX : Chg [] w w4 := bU
 refine sq (opk_new (fun B => .pointer (some ⟨B, 0, none⟩)) aV rfl (r_box (cs := [.bool c, .bool f, Sl.v af, Sl.v k, .int .i64 q, Sl.v ah]) (aV.get rfl) rfl) fun cX x o aA aY aq bY _ => ?_)
 have bZ : m ≠ o := Nat.ne_of_lt (Nat.lt_of_lt_of_le aU.lt aY.ge)
 have b0 := New.of aX aY
 have ar := aU.ext aA
 have b1 := aX.more aA
 have b2 := bX.up aA.size
 refine sqv bY rfl (r_assign rfl) fun _ b3 => sq_end ?_
 have aZ := b3.kp [(2, pB m 0), (3, pB o 0)] rfl
 refine then_normal (wp_seq (wp_seq (wp_region_lit ?_)))
 refine sqv aZ rfl (r_fieldAddr (aZ.get rfl) Try.underlying43 rfl ti_4 (by decide)) fun _ hA24 => sqv hA24 rfl (r_load1 tU4 rfl (hA24.get rfl) (ar.cell 0 _ rfl)) fun _ a1 => sqv a1 rfl (r_fieldAddr (a1.get rfl) Try.underlying93 rfl ti_4 (by decide)) fun _ a2 => sqv a2 rfl (r_load1 tU4 rfl (a2.get rfl) (aq.cell 0 _ rfl)) fun _ aB => sqv aB rfl (r_bneq (aB.get rfl) (aB.get rfl) tU4) fun _ a3 => sqv a3 rfl (r_move (a3.get rfl)) fun _ a4 => ?_
 refine sq (opk_gval a4 rfl rfl (g := true) (e := (!(b == c))) rfl (fun hg => r_fieldAddr (a4.get rfl) Try.underlying43 rfl ti_4 (by decide)) fun cY hA30 _ => ?_)
 refine sq (opk_gval hA30 rfl rfl (g := true) (e := (!(b == c))) rfl (fun hg => r_load1 tU4 rfl (cv_get (hA30.get rfl) hg) (ar.cell 1 _ rfl)) fun cZ a6 _ => ?_)
 refine sq (opk_gval a6 rfl rfl (g := true) (e := (!(b == c))) rfl (fun hg => r_fieldAddr (a6.get rfl) Try.underlying93 rfl ti_4 (by decide)) fun c0 a7 _ => ?_)
 refine sq (opk_gval a7 rfl rfl (g := true) (e := (!(b == c))) rfl (fun hg => r_load1 tU4 rfl (cv_get (a7.get rfl) hg) (aq.cell 1 _ rfl)) fun c1 aC _ => ?_)
 refine sq (opk_gval aC rfl rfl (g := true) (e := (!(b == c))) rfl (fun hg => r_bneq (cv_get (aC.get rfl) hg) (cv_get (aC.get rfl) hg) tU4) fun c2 aD _ => ?_)
 refine sqv aD rfl (r_pick_or (g := (true && ((!(b == c)) == false))) (aD.get rfl) (aD.get rfl) (fun he => g_mkf rfl he)) fun _ a8 => sqv a8 rfl (r_move (a8.get rfl)) fun _ a9 => ?_
 refine sq (opk_gval a9 rfl rfl (g := true) (e := ((!(b == c)) || (!(d == f)))) rfl (fun hg => r_fieldAddr (a9.get rfl) Try.underlying43 rfl ti_23 (by decide)) fun c3 ba _ => ?_)
 refine sq (opk_gval ba rfl rfl (g := true) (e := ((!(b == c)) || (!(d == f)))) rfl (fun hg => r_load1 tU23 rfl (cv_get (ba.get rfl) hg) (ar.cell 2 _ rfl)) fun c4 bb _ => ?_)
 refine sq (opk_gval bb rfl rfl (g := true) (e := ((!(b == c)) || (!(d == f)))) rfl (fun hg => r_fieldAddr (bb.get rfl) Try.underlying93 rfl ti_23 (by decide)) fun c5 bd _ => ?_)
 refine sq (opk_gval bd rfl rfl (g := true) (e := ((!(b == c)) || (!(d == f)))) rfl (fun hg => r_load1 tU23 rfl (cv_get (bd.get rfl) hg) (aq.cell 2 _ rfl)) fun c6 aF _ => ?_)
 have b4 := aR x m o b2 b0 bZ b1
 obtain ⟨l, b5, b6⟩ := b4
 refine sq (opk_gcall aF rfl rfl (g := true) (e := ((!(b == c)) || (!(d == f)))) rfl (fun hg => r_call (args := #[Sl.v ab, Sl.v af]) Try.func69 (by decide) rfl (map_arr (ml_cons (cv_get (aF.get rfl) hg) (ml_cons (cv_get (aF.get rfl) hg) ml_nil))) rfl) (fun hg => b5 ⟨(b_not_f (b_or_f (g_f hg)).1), (b_not_f (b_or_f (g_f hg)).2)⟩) fun c7 ai bf _ au => ?_)
 have av := ar.ext au
 have ax := aq.ext au
 have c8 : Chg [] x ai := au
 have b7 := b6 ai au
 refine sq (opk_gval bf rfl rfl (g := true) (e := ((!(b == c)) || (!(d == f)))) rfl (fun hg => r_not (cv_get (bf.get rfl) hg)) fun c9 aG _ => ?_)
 refine sqv aG rfl (r_pick_or (g := (true && (((!(b == c)) || (!(d == f))) == false))) (aG.get rfl) (aG.get rfl) (fun he => g_mkf rfl he)) fun _ bg => sqv bg rfl (r_move (bg.get rfl)) fun _ bh => ?_
 refine sq (opk_gval bh rfl rfl (g := true) (e := (((!(b == c)) || (!(d == f))) || (!l))) rfl (fun hg => r_fieldAddr (bh.get rfl) Try.underlying43 rfl ti_41 (by decide)) fun da bi _ => ?_)
 refine sq (opk_gval bi rfl rfl (g := true) (e := (((!(b == c)) || (!(d == f))) || (!l))) rfl (fun hg => r_load1 tU41 rfl (cv_get (bi.get rfl) hg) (av.cell 3 _ rfl)) fun db bj _ => ?_)
 refine sq (opk_gval bj rfl rfl (g := true) (e := (((!(b == c)) || (!(d == f))) || (!l))) rfl (fun hg => r_len (cv_get (bj.get rfl) hg) tU41) fun dc bk _ => ?_)
 refine sq (opk_gval bk rfl rfl (g := true) (e := (((!(b == c)) || (!(d == f))) || (!l))) rfl (fun hg => r_fieldAddr (bk.get rfl) Try.underlying93 rfl ti_41 (by decide)) fun dd bl _ => ?_)
 refine sq (opk_gval bl rfl rfl (g := true) (e := (((!(b == c)) || (!(d == f))) || (!l))) rfl (fun hg => r_load1 tU41 rfl (cv_get (bl.get rfl) hg) (ax.cell 3 _ rfl)) fun df bm _ => ?_)
 refine sq (opk_gval bm rfl rfl (g := true) (e := (((!(b == c)) || (!(d == f))) || (!l))) rfl (fun hg => r_len (cv_get (bm.get rfl) hg) tU41) fun dg aH _ => ?_)
 refine sq (opk_gval aH rfl rfl (g := true) (e := (((!(b == c)) || (!(d == f))) || (!l))) rfl (fun hg => r_neq (cv_get (aH.get rfl) hg) (cv_get (aH.get rfl) hg)) fun dh aI _ => ?_)
 refine sqv aI rfl (r_pick_or (g := (true && ((((!(b == c)) || (!(d == f))) || (!l)) == false))) (aI.get rfl) (aI.get rfl) (fun he => g_mkf rfl he)) fun _ bn => sqv bn rfl (r_move (bn.get rfl)) fun _ bo => ?_
 refine sq (opk_gval bo rfl rfl (g := true) (e := ((((!(b == c)) || (!(d == f))) || (!l)) || (decide ((j.n : Int) ≠ (k.n : Int))))) rfl (fun hg => r_fieldAddr (bo.get rfl) Try.underlying43 rfl ti_3 (by decide)) fun di bp _ => ?_)
 refine sq (opk_gval bp rfl rfl (g := true) (e := ((((!(b == c)) || (!(d == f))) || (!l)) || (decide ((j.n : Int) ≠ (k.n : Int))))) rfl (fun hg => r_load1 tU3 rfl (cv_get (bp.get rfl) hg) (av.cell 4 _ rfl)) fun dj bq _ => ?_)
 refine sq (opk_gval bq rfl rfl (g := true) (e := ((((!(b == c)) || (!(d == f))) || (!l)) || (decide ((j.n : Int) ≠ (k.n : Int))))) rfl (fun hg => r_fieldAddr (bq.get rfl) Try.underlying93 rfl ti_3 (by decide)) fun dk br _ => ?_)
 refine sq (opk_gval br rfl rfl (g := true) (e := ((((!(b == c)) || (!(d == f))) || (!l)) || (decide ((j.n : Int) ≠ (k.n : Int))))) rfl (fun hg => r_load1 tU3 rfl (cv_get (br.get rfl) hg) (ax.cell 4 _ rfl)) fun dl aJ _ => ?_)
 refine sq (opk_gval aJ rfl rfl (g := true) (e := ((((!(b == c)) || (!(d == f))) || (!l)) || (decide ((j.n : Int) ≠ (k.n : Int))))) rfl (fun hg => r_neq (cv_get (aJ.get rfl) hg) (cv_get (aJ.get rfl) hg)) fun dm aK _ => ?_)
 refine sqv aK rfl (r_pick_or (g := (true && (((((!(b == c)) || (!(d == f))) || (!l)) || (decide ((j.n : Int) ≠ (k.n : Int)))) == false))) (aK.get rfl) (aK.get rfl) (fun he => g_mkf rfl he)) fun _ bs => sqv bs rfl (r_move (bs.get rfl)) fun _ bt => ?_
 refine sq (opk_gval bt rfl rfl (g := true) (e := (((((!(b == c)) || (!(d == f))) || (!l)) || (decide ((j.n : Int) ≠ (k.n : Int)))) || (decide (p ≠ q)))) rfl (fun hg => r_fieldAddr (bt.get rfl) Try.underlying43 rfl ti_22 (by decide)) fun dn bu _ => ?_)
 refine sq (opk_gval bu rfl rfl (g := true) (e := (((((!(b == c)) || (!(d == f))) || (!l)) || (decide ((j.n : Int) ≠ (k.n : Int)))) || (decide (p ≠ q)))) rfl (fun hg => r_load1 tU22 rfl (cv_get (bu.get rfl) hg) (av.cell 5 _ rfl)) fun dp bv _ => ?_)
 refine sq (opk_gval bv rfl rfl (g := true) (e := (((((!(b == c)) || (!(d == f))) || (!l)) || (decide ((j.n : Int) ≠ (k.n : Int)))) || (decide (p ≠ q)))) rfl (fun hg => r_fieldAddr (bv.get rfl) Try.underlying93 rfl ti_22 (by decide)) fun dq bx _ => ?_)
 refine sq (opk_gval bx rfl rfl (g := true) (e := (((((!(b == c)) || (!(d == f))) || (!l)) || (decide ((j.n : Int) ≠ (k.n : Int)))) || (decide (p ≠ q)))) rfl (fun hg => r_load1 tU22 rfl (cv_get (bx.get rfl) hg) (ax.cell 5 _ rfl)) fun dr aL _ => ?_)
 obtain ⟨al, b8, b9⟩ := b7
 refine sq (opk_gcall aL rfl rfl (g := true) (e := (((((!(b == c)) || (!(d == f))) || (!l)) || (decide ((j.n : Int) ≠ (k.n : Int)))) || (decide (p ≠ q)))) rfl (fun hg => r_call (args := #[Sl.v ad, Sl.v ah]) Try.func23 (by decide) rfl (map_arr (ml_cons (cv_get (aL.get rfl) hg) (ml_cons (cv_get (aL.get rfl) hg) ml_nil))) rfl) (fun hg => b8 ⟨⟨⟨⟨(b_not_f (b_or_f (b_or_f (b_or_f (b_or_f (g_f hg)).1).1).1).1), (b_not_f (b_or_f (b_or_f (b_or_f (b_or_f (g_f hg)).1).1).1).2)⟩, (b_not_f (b_or_f (b_or_f (b_or_f (g_f hg)).1).1).2)⟩, (of_decide_eq_false (b_or_f (b_or_f (g_f hg)).1).2)⟩, (of_decide_eq_false (b_or_f (g_f hg)).2)⟩) fun ds aj bz _ ay => ?_)
 have ca := av.ext ay
 have cb := ax.ext ay
 have dt : Chg [] ai aj := ay
 have bA := b9 aj ay
 refine sq (opk_gval bz rfl rfl (g := true) (e := (((((!(b == c)) || (!(d == f))) || (!l)) || (decide ((j.n : Int) ≠ (k.n : Int)))) || (decide (p ≠ q)))) rfl (fun hg => r_not (cv_get (bz.get rfl) hg)) fun du aM _ => ?_)
 refine sqv aM rfl (r_pick_or (g := (true && ((((((!(b == c)) || (!(d == f))) || (!l)) || (decide ((j.n : Int) ≠ (k.n : Int)))) || (decide (p ≠ q))) == false))) (aM.get rfl) (aM.get rfl) (fun he => g_mkf rfl he)) fun _ cc => sq_end ?_
 have aN := cc.kp [(2, pB m 0), (3, pB o 0), (49, .bool ((((((!(b == c)) || (!(d == f))) || (!l)) || (decide ((j.n : Int) ≠ (k.n : Int)))) || (decide (p ≠ q))) || (!al)))] rfl
 refine then_normal ?_
 refine wp_cond_split (aN.get rfl) (fun hc => ?_) (fun hc => ?_)
 ·have cd := bA.1 ((b_or_t hc).imp (fun h => ((b_or_t h).imp (fun h => ((b_or_t h).imp (fun h => ((b_or_t h).imp (fun h => ((b_or_t h).imp (fun h => (b_not_t h)) (fun h => (b_not_t h)))) (fun h => (b_not_t h)))) (fun h => (of_decide_eq_true h)))) (fun h => (of_decide_eq_true h)))) (fun h => (b_not_t h)))
  clear hc
  refine wp_seq (wp_region_lit ?_)
  refine sqv aN rfl (r_assign rfl) fun _ cf => sq_end ?_
  have bB := cf.kp [(4, .bool false)] rfl
  refine then_normal ?_
  refine wp_ret ?_
  refine then_ret ?_
  exact res_all (vs := [.bool false]) rfl bB ⟨res_of_tmp bB rfl, trivial⟩ cd
 ·have cg := bA.2 ⟨⟨⟨⟨⟨(b_not_f (b_or_f (b_or_f (b_or_f (b_or_f (b_or_f hc).1).1).1).1).1), (b_not_f (b_or_f (b_or_f (b_or_f (b_or_f (b_or_f hc).1).1).1).1).2)⟩, (b_not_f (b_or_f (b_or_f (b_or_f (b_or_f hc).1).1).1).2)⟩, (of_decide_eq_false (b_or_f (b_or_f (b_or_f hc).1).1).2)⟩, (of_decide_eq_false (b_or_f (b_or_f hc).1).2)⟩, (b_not_f (b_or_f hc).2)⟩
  clear hc
  refine wp_skip ?_
  refine then_normal (wp_seq (wp_seq (wp_region_lit ?_)))
  refine sqv aN rfl (r_assign rfl) fun _ ch => sq_end ?_
  have ci := ch.kp [(2, pB m 0), (3, pB o 0), (5, .int .i64 0)] rfl
  refine then_normal (wp_block ?_)
  obtain ⟨am, ap, cj, ck⟩ := cg
  refine wp_loop_st (σ := Int × World) (fun s a w => Ag 68 a [(2, pB m 0), (3, pB o 0), (5, .int .i64 s.1)] ∧ Box w m 43 [.bool b, .bool d, Sl.v ab, Sl.v j, .int .i64 p, Sl.v ad] ∧ Box w o 93 [.bool c, .bool f, Sl.v af, Sl.v k, .int .i64 q, Sl.v ah] ∧ w = s.2 ∧ am s.1 s.2) (fun s => ap s.1 s.2) (0, aj) ⟨ci.kp [(2, pB m 0), (3, pB o 0), (5, .int .i64 0)] rfl, ca, cb, rfl, cj⟩ ?_
  rintro ⟨i, ak⟩ dv w_ ⟨bC, bD, cl, hw_, cm⟩
  have hw_ : ak = w_ := hw_.symm
  subst hw_
  have bF := ck i _ cm
  refine wp_seq (wp_seq (wp_region_lit ?_))
  refine sqv bC rfl (r_move (bC.get rfl)) fun _ bG => sqv bG rfl (r_fieldAddr (bG.get rfl) Try.underlying43 rfl ti_41 (by decide)) fun _ bH => sqv bH rfl (r_load1 tU41 rfl (bH.get rfl) (bD.cell 3 _ rfl)) fun _ bI => sqv bI rfl (r_len (bI.get rfl) tU41) fun _ aO => sqv aO rfl (r_lss (aO.get rfl) (aO.get rfl)) fun _ cn => sq_end ?_
  have r := cn.kp [(2, pB m 0), (3, pB o 0), (5, .int .i64 i), (54, .bool (decide (i < (j.n : Int))))] rfl
  refine then_normal ?_
  refine wp_cond_split (r.get rfl) (fun hc => ?_) (fun hc => ?_)
  ·have co := bF.1 (of_decide_eq_true hc)
   clear hc
   refine wp_skip ?_
   refine then_normal (wp_seq (wp_block (wp_seq ?_)))
   refine draw' (by kernel_rfl) fun y aP => ?_
   have bJ := bD.ext aP
   have bK := cl.ext aP
   have cp : Chg [] ak y := aP
   have cq := co y    cp
   obtain ⟨an, bL, cr⟩ := cq
   obtain ⟨z, ct, cu⟩ := cr
   obtain ⟨ao, bM, cv⟩ := cu
   obtain ⟨aa, cx, bN⟩ := cv
   refine par (D := [[], [0], [], [0, 1, 2], [0, 1, 2, 3], [], [5], [], [5, 6, 7], [5, 6, 7, 8], [0, 1, 2, 3, 4, 5, 6, 7, 8, 9]]) (S := [0, 1, 2, 3, 4, 5, 6, 7, 8, 9, 10]) (F := []) (V := VL [(0, fun v _ => v = pB m 3), (1, fun v _ => v = Sl.v j), (2, fun v _ => v = .int .i64 i), (3, fun v _ => v = .pointer (some (an.add (i.toNat * 1)))), (4, fun v _ => v = .string (Bs z)), (5, fun v _ => v = pB o 3), (6, fun v _ => v = Sl.v k), (7, fun v _ => v = .int .i64 i), (8, fun v _ => v = .pointer (some (ao.add (i.toNat * 1)))), (9, fun v _ => v = .string (Bs aa)), (10, fun v _ => v = .bool (decide (z ≠ aa)))]) r (by kernel_rfl) ⟨fun _ _ _ _ h => by first | exact h | (change _ = _ at h; change _ = _; exact h), fun _ _ _ _ h => by first | exact h | (change _ = _ at h; change _ = _; exact h), fun _ _ _ _ h => by first | exact h | (change _ = _ at h; change _ = _; exact h), fun _ _ _ _ h => by first | exact h | (change _ = _ at h; change _ = _; exact h), fun _ _ _ _ h => by first | exact h | (change _ = _ at h; change _ = _; exact h), fun _ _ _ _ h => by first | exact h | (change _ = _ at h; change _ = _; exact h), fun _ _ _ _ h => by first | exact h | (change _ = _ at h; change _ = _; exact h), fun _ _ _ _ h => by first | exact h | (change _ = _ at h; change _ = _; exact h), fun _ _ _ _ h => by first | exact h | (change _ = _ at h; change _ = _; exact h), fun _ _ _ _ h => by first | exact h | (change _ = _ at h; change _ = _; exact h), fun _ _ _ _ h => by first | exact h | (change _ = _ at h; change _ = _; exact h), trivial⟩ ⟨?_, ?_, ?_, ?_, ?_, ?_, ?_, ?_, ?_, ?_, ?_, trivial⟩ ?_
   ·intro a w hT
    have hAp := hT.ag r [(2, pB m 0)] ⟨rfl, trivial⟩ (by kernel_rfl)
    exact ovr hAp rfl (r_fieldAddr (hAp.get rfl) Try.underlying43 rfl ti_41 (by decide)) fun _ => Eq.refl _
   ·intro a w hT
    have hAp := hT.ag r [] trivial (by kernel_rfl)
    have hAp := hAp.add (t := 57) (v := pB m 3) (hT.vals 0 rfl 57 rfl)
    exact ovr hAp rfl (r_load1 tU41 rfl (hAp.get rfl) ((bJ.ext hT.chg).cell 3 _ rfl)) fun _ => Eq.refl _
   ·intro a w hT
    have hAp := hT.ag r [(5, .int .i64 i)] ⟨rfl, trivial⟩ (by kernel_rfl)
    exact ovr hAp rfl (r_move (hAp.get rfl)) fun _ => Eq.refl _
   ·intro a w hT
    have hAp := hT.ag r [] trivial (by kernel_rfl)
    have hAp := hAp.add (t := 58) (v := Sl.v j) (hT.vals 1 rfl 58 rfl)
    have hAp := hAp.add (t := 59) (v := .int .i64 i) (hT.vals 2 rfl 59 rfl)
    exact ovr hAp rfl (r_indexAddr (hAp.get rfl) (hAp.get rfl) tU41 ti_9 bL.1 bL.2) fun _ => Eq.refl _
   ·intro a w hT
    have hAp := hT.ag r [] trivial (by kernel_rfl)
    have hAp := hAp.add (t := 60) (v := .pointer (some (an.add (i.toNat * 1)))) (hT.vals 3 rfl 60 rfl)
    exact ovr hAp rfl (r_load1 tU9 rfl (hAp.get rfl) (Ext.cell hT.chg ct)) fun _ => Eq.refl _
   ·intro a w hT
    have hAp := hT.ag r [(3, pB o 0)] ⟨rfl, trivial⟩ (by kernel_rfl)
    exact ovr hAp rfl (r_fieldAddr (hAp.get rfl) Try.underlying93 rfl ti_41 (by decide)) fun _ => Eq.refl _
   ·intro a w hT
    have hAp := hT.ag r [] trivial (by kernel_rfl)
    have hAp := hAp.add (t := 62) (v := pB o 3) (hT.vals 5 rfl 62 rfl)
    exact ovr hAp rfl (r_load1 tU41 rfl (hAp.get rfl) ((bK.ext hT.chg).cell 3 _ rfl)) fun _ => Eq.refl _
   ·intro a w hT
    have hAp := hT.ag r [(5, .int .i64 i)] ⟨rfl, trivial⟩ (by kernel_rfl)
    exact ovr hAp rfl (r_move (hAp.get rfl)) fun _ => Eq.refl _
   ·intro a w hT
    have hAp := hT.ag r [] trivial (by kernel_rfl)
    have hAp := hAp.add (t := 63) (v := Sl.v k) (hT.vals 6 rfl 63 rfl)
    have hAp := hAp.add (t := 64) (v := .int .i64 i) (hT.vals 7 rfl 64 rfl)
    exact ovr hAp rfl (r_indexAddr (hAp.get rfl) (hAp.get rfl) tU41 ti_9 bM.1 bM.2) fun _ => Eq.refl _
   ·intro a w hT
    have hAp := hT.ag r [] trivial (by kernel_rfl)
    have hAp := hAp.add (t := 65) (v := .pointer (some (ao.add (i.toNat * 1)))) (hT.vals 8 rfl 65 rfl)
    exact ovr hAp rfl (r_load1 tU9 rfl (hAp.get rfl) (Ext.cell hT.chg cx)) fun _ => Eq.refl _
   ·intro a w hT
    have hAp := hT.ag r [] trivial (by kernel_rfl)
    have hAp := hAp.add (t := 61) (v := .string (Bs z)) (hT.vals 4 rfl 61 rfl)
    have hAp := hAp.add (t := 66) (v := .string (Bs aa)) (hT.vals 9 rfl 66 rfl)
    exact ovr hAp rfl (r_sneq (hAp.get rfl) (hAp.get rfl)) fun _ => Eq.refl _
   ·intro cy u aQ cz cA
    have cB := cz [(2, pB m 0), (3, pB o 0), (5, .int .i64 i)] ⟨rfl, rfl, rfl, trivial⟩ (by kernel_rfl)
    have cC : cy.tmps.getD 67 undef = .bool (decide (z ≠ aa)) := cA 10 rfl 67 rfl
    have cD := cB.add cC
    have cF := bJ.ext aQ
    have cG := bK.ext aQ
    have bO : Chg [] y u := aQ
    refine PR_end (by kernel_rfl) ?_
    have az := cD.kp [(2, pB m 0), (3, pB o 0), (5, .int .i64 i), (67, .bool (decide (z ≠ aa)))] rfl
    refine then_normal ?_
    refine wp_cond_split (az.get rfl) (fun hc => ?_) (fun hc => ?_)
    ·have cH := bN.1 (of_decide_eq_true hc)
     clear hc
     refine wp_seq (wp_region_lit ?_)
     refine sqv az rfl (r_assign rfl) fun _ cI => sq_end ?_
     have bP := cI.kp [(4, .bool false)] rfl
     refine then_normal ?_
     refine wp_ret ?_
     refine block_ret ?_
     refine then_ret ?_
     refine then_ret ?_
     refine block_ret ?_
     refine then_ret ?_
     have cJ := cH u    bO
     exact res_all (vs := [.bool false]) rfl bP ⟨res_of_tmp bP rfl, trivial⟩ cJ
    ·have cK := bN.2 (of_decide_eq_false hc)
     clear hc
     refine wp_skip ?_
     refine block_normal ?_
     refine then_normal (wp_region_lit ?_)
     refine sqv az rfl (r_move (az.get rfl)) fun _ bQ => ?_
     obtain ⟨cL, cM⟩ := cK
     refine sqv bQ rfl (r_addI (bQ.get rfl) rfl cL) fun _ bR => sqv bR rfl (r_assign (bR.get rfl)) fun _ cN => sq_end ?_
     have cO := cN.kp [(2, pB m 0), (3, pB o 0), (5, .int .i64 (i + 1))] rfl
     have bS := cM u    bO
     have cP := cO.kp [(2, pB m 0), (3, pB o 0), (5, .int .i64 (i + 1))] rfl
     exact then_normal ⟨(i + 1, u), ⟨cP, cF, cG, rfl, bS.1⟩, bS.2⟩
  ·have cQ := bF.2 (of_decide_eq_false hc)
   clear hc
   refine wp_exit ?_
   refine then_exit ?_
   refine then_exit ?_
   refine block_hit ?_
   have cR := r.kp [] rfl
   refine then_normal (wp_seq (wp_region_lit ?_))
   refine sqv cR rfl (r_assign rfl) fun _ cS => sq_end ?_
   have bT := cS.kp [(4, .bool true)] rfl
   refine then_normal ?_
   refine wp_ret ?_
   exact res_all (vs := [.bool true]) rfl bT ⟨res_of_tmp bT rfl, trivial⟩ cQ
end Go.Proofs.Yteohbfaechfliaa
