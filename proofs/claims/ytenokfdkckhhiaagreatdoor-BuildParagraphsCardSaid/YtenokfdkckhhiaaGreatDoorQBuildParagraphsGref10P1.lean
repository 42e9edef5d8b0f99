/-
  PRINTED BY PROGRAM: for each function its condition (vc), and that this suffices (ok).
-/
import Derived.Test.YtenokfdkckhhiaaGreatDoorQBuildParagraphsGT
namespace Go.Proofs.YtenokfdkckhhiaaGreatDoor
open Go.RowKit
set_option linter.unusedVariables false
set_option maxHeartbeats 1000000
set_option maxRecDepth 10000
def ref10_Next.vc (d : Str) (b : Int) (k : Str) (R : Value → World → Prop) (w : World) : Prop :=
(((b < 0) ∨ ((d.length : Int) ≤ b)) →
∀ (t : World) (c : Nat), New w c t → Chg [] w t →
R (.tuple #[.agg #[.int .i64 6, .string (Bs []), .string (Bs []), Sl.v Sl.nil, .bool false], .int .i64 (d.length : Int), .bool true]) t) ∧
(((¬ (b < 0)) ∧ (¬ ((d.length : Int) ≤ b))) →
∀ (o : World) (c : Nat), New w c o → Chg [] w o →
∃ J_196 : World → Prop,
(((k ≠ ([] : Str)) →
CallK Tryz.prog 46 #[.string (Bs k)] o [c] (fun v cb => ∃ (i : Str), v = .string (Bs i) ∧
∃ (a1 : Int → World → Prop) (bJ : Int → World → Nat),
a1 b cb ∧
(∀ (f : Int) (p : World), a1 f p →
∃ (a2 : Bool), (((f < (d.length : Int))) → Calls Tryz.prog 47 #[.string (Bs d), .int .i64 f, .string (Bs i)] p (Ret fun v w' => Ext p w' ∧ v = .bool a2)) ∧
(∀ m : World, Ext p m →
(((f < (d.length : Int)) ∧ (a2 = false)) →
(I64 (f + 1)) ∧
a1 (f + 1) m ∧ bJ (f + 1) m < bJ f p) ∧
(((¬ (f < (d.length : Int))) ∨ (a2 = true)) →
((b < f) →
((0 : Int) ≤ b ∧ (b : Int) ≤ f ∧ f ≤ (d.length : Int)) ∧
CallK Tryz.prog 30 #[.string (Bs i)] m [c] (fun v bK => ∃ (a3 : Int), v = .int .i64 a3 ∧
((a3 = 1) →
CallK Tryz.prog 48 #[.string (Bs ((List.drop b.toNat d).take (f.toNat - b.toNat))), .bool false] bK [c] (fun v cc => ∃ (n : Str), v = .string (Bs n) ∧
∀ (u : World), Chg [c] cc u →
R (.tuple #[.agg #[.int .i64 3, .string (Bs []), .string (Bs n), Sl.v Sl.nil, .bool true], .int .i64 f, .bool true]) u)) ∧
((¬ (a3 = 1)) →
∀ (x : World), Chg [c] bK x →
R (.tuple #[.agg #[.int .i64 3, .string (Bs []), .string (Bs ((List.drop b.toNat d).take (f.toNat - b.toNat))), Sl.v Sl.nil, .bool true], .int .i64 f, .bool true]) x))) ∧
((¬ (b < f)) →
J_196 m)))))) ∧
((¬ (k ≠ ([] : Str))) →
J_196 o)) ∧
(∀ (a4 : World), J_196 a4 →
((0 : Int) ≤ b ∧ b < (d.length : Int)) ∧
((((d.getD b.toNat 0).toNat : Int) ≠ 60) →
CallK Tryz.prog 49 #[.string (Bs d), .int .i64 b] a4 [c] (fun v cd => ∃ (y : Int) (z : Str) (aa : Str) (ab : Sl) (ad : Bool) (a5 : Int) (r_2_371 : Bool), v = .tuple #[.agg #[.int .i64 y, .string (Bs z), .string (Bs aa), Sl.v ab, .bool ad], .int .i64 a5, .bool r_2_371] ∧
∀ (af : World), Chg [c] cd af →
R (.tuple #[.agg #[.int .i64 y, .string (Bs z), .string (Bs aa), Sl.v ab, .bool ad], .int .i64 a5, .bool r_2_371]) af)) ∧
((¬ (((d.getD b.toNat 0).toNat : Int) ≠ 60)) →
(I64 (b + 1)) ∧
CallK Tryz.prog 50 #[.string (Bs d), .int .i64 (b + 1)] a4 [c] (fun v cf => ∃ (a7 : Bool), v = .bool a7 ∧
((a7 = true) →
(I64 (b + 1)) ∧
CallK Tryz.prog 51 #[.string (Bs d), .int .i64 (b + 1), .int .i64 1] cf [c] (fun v cg => ∃ (ag : Int) (ah : Str) (ai : Str) (aj : Sl) (ak : Bool) (a8 : Int) (a9 : Bool), v = .tuple #[.agg #[.int .i64 ag, .string (Bs ah), .string (Bs ai), Sl.v aj, .bool ak], .int .i64 a8, .bool a9] ∧
∀ (al : World), Chg [c] cg al →
R (.tuple #[.agg #[.int .i64 ag, .string (Bs ah), .string (Bs ai), Sl.v aj, .bool ak], .int .i64 a8, .bool a9]) al)) ∧
((a7 = false) →
CallK Tryz.prog 52 #[.string (Bs d), .int .i64 b, .string (Bs ([60, 47] : Str))] cf [c] (fun v ba => ∃ (l : Bool), v = .bool l ∧
(((l = true)) → I64 (b + 2)) ∧
∃ (bb : Bool), (((l = true)) → Calls Tryz.prog 50 #[.string (Bs d), .int .i64 (b + 2)] ba (Ret fun v w' => Ext ba w' ∧ v = .bool bb)) ∧
(∀ am : World, Ext ba am →
(((l = true) ∧ (bb = true)) →
(I64 (b + 2)) ∧
CallK Tryz.prog 51 #[.string (Bs d), .int .i64 (b + 2), .int .i64 2] am [c] (fun v ch => ∃ (an : Int) (ao : Str) (ap : Str) (aq : Sl) (ar : Bool) (bd : Int) (bf : Bool), v = .tuple #[.agg #[.int .i64 an, .string (Bs ao), .string (Bs ap), Sl.v aq, .bool ar], .int .i64 bd, .bool bf] ∧
∀ (au : World), Chg [c] ch au →
R (.tuple #[.agg #[.int .i64 an, .string (Bs ao), .string (Bs ap), Sl.v aq, .bool ar], .int .i64 bd, .bool bf]) au)) ∧
(((l = false) ∨ (bb = false)) →
CallK Tryz.prog 52 #[.string (Bs d), .int .i64 b, .string (Bs ([60, 33, 45, 45] : Str))] am [c] (fun v ci => ∃ (bg : Bool), v = .bool bg ∧
((bg = true) →
(I64 (b + 4)) ∧
CallK Tryz.prog 53 #[.string (Bs d), .int .i64 (b + 4)] ci [c] (fun v cj => ∃ (av : Int) (ax : Str) (ay : Str) (az : Sl) (aA : Bool) (bi : Int) (bj : Bool), v = .tuple #[.agg #[.int .i64 av, .string (Bs ax), .string (Bs ay), Sl.v az, .bool aA], .int .i64 bi, .bool bj] ∧
∀ (aB : World), Chg [c] cj aB →
R (.tuple #[.agg #[.int .i64 av, .string (Bs ax), .string (Bs ay), Sl.v az, .bool aA], .int .i64 bi, .bool bj]) aB)) ∧
((bg = false) →
CallK Tryz.prog 52 #[.string (Bs d), .int .i64 b, .string (Bs ([60, 33, 100, 111, 99, 116, 121, 112, 101] : Str))] ci [c] (fun v ck => ∃ (bk : Bool), v = .bool bk ∧
((bk = true) →
(I64 (b + 9)) ∧
CallK Tryz.prog 54 #[.string (Bs d), .int .i64 (b + 9)] ck [c] (fun v cl => ∃ (aC : Int) (aD : Str) (aG : Str) (aH : Sl) (aI : Bool) (bo : Int) (bp : Bool), v = .tuple #[.agg #[.int .i64 aC, .string (Bs aD), .string (Bs aG), Sl.v aH, .bool aI], .int .i64 bo, .bool bp] ∧
∀ (aJ : World), Chg [c] cl aJ →
R (.tuple #[.agg #[.int .i64 aC, .string (Bs aD), .string (Bs aG), Sl.v aH, .bool aI], .int .i64 bo, .bool bp]) aJ)) ∧
((bk = false) →
CallK Tryz.prog 52 #[.string (Bs d), .int .i64 b, .string (Bs ([60, 47, 62] : Str))] ck [c] (fun v bL => ∃ (bq : Bool), v = .bool bq ∧
((bq = true) →
(I64 (b + 3)) ∧
∀ (aK : World), Chg [c] bL aK →
R (.tuple #[.agg #[.int .i64 0, .string (Bs []), .string (Bs []), Sl.v Sl.nil, .bool false], .int .i64 (b + 3), .bool false]) aK) ∧
((bq = false) →
CallK Tryz.prog 52 #[.string (Bs d), .int .i64 b, .string (Bs ([60, 33] : Str))] bL [c] (fun v cm => ∃ (q : Bool), v = .bool q ∧
∃ bs : Bool → World → Prop,
(((q = true) →
bs q cm) ∧
((q = false) →
CallK Tryz.prog 52 #[.string (Bs d), .int .i64 b, .string (Bs ([60, 47] : Str))] cm [c] (fun v di => ∃ (j : Bool), v = .bool j ∧
(((j = true)) → I64 (b + 2)) ∧
bs (j && (decide ((b + 2) < (d.length : Int)))) di))) ∧
(∀ (r : Bool) (bt : World), bs r bt →
((r = true) →
(I64 (b + 2)) ∧
CallK Tryz.prog 55 #[.string (Bs d), .int .i64 (b + 2)] bt [c] (fun v cn => ∃ (aL : Int) (aM : Str) (aN : Str) (aO : Sl) (aP : Bool) (bu : Int) (bv : Bool), v = .tuple #[.agg #[.int .i64 aL, .string (Bs aM), .string (Bs aN), Sl.v aO, .bool aP], .int .i64 bu, .bool bv] ∧
∀ (aQ : World), Chg [c] cn aQ →
R (.tuple #[.agg #[.int .i64 aL, .string (Bs aM), .string (Bs aN), Sl.v aO, .bool aP], .int .i64 bu, .bool bv]) aQ)) ∧
((r = false) →
CallK Tryz.prog 52 #[.string (Bs d), .int .i64 b, .string (Bs ([60, 63] : Str))] bt [c] (fun v bM => ∃ (bx : Bool), v = .bool bx ∧
((bx = true) →
(I64 (b + 1)) ∧
CallK Tryz.prog 55 #[.string (Bs d), .int .i64 (b + 1)] bM [c] (fun v co => ∃ (aR : Int) (aS : Str) (aU : Str) (aV : Sl) (aX : Bool) (bz : Int) (bA : Bool), v = .tuple #[.agg #[.int .i64 aR, .string (Bs aS), .string (Bs aU), Sl.v aV, .bool aX], .int .i64 bz, .bool bA] ∧
∀ (aY : World), Chg [c] co aY →
R (.tuple #[.agg #[.int .i64 aR, .string (Bs aS), .string (Bs aU), Sl.v aV, .bool aX], .int .i64 bz, .bool bA]) aY)) ∧
((bx = false) →
(I64 (b + 1)) ∧
∀ (aZ : World), Chg [c] bM aZ →
R (.tuple #[.agg #[.int .i64 3, .string (Bs []), .string (Bs ([60] : Str)), Sl.v Sl.nil, .bool false], .int .i64 (b + 1), .bool true]) aZ)))))))))))))))))))
theorem ref10_Next.ok (d : Str) (b : Int) (k : Str) {R : Value → World → Prop} {w : World} (cp : ref10_Next.vc d b k R w) : Calls Tryz.prog 29 #[.string (Bs d), .int .i64 b, .string (Bs k)] w (Ret R) := by
 refine enter [.string (Bs d), .int .i64 b, .string (Bs k)] Tryz.func29 rfl Tryz.ntmps29 rfl ?_
 intro a0 hL
 unfold ref10_Next.vc at cp
 refine wp_seq (wp_region_lit ?_)
 refine sq (opk_new (fun B => .pointer (some ⟨B, 0, none⟩)) hL rfl (r_alloc (cs := [.int .i64 0, .string (Bs []), .string (Bs []), Sl.v Sl.nil, .bool false]) ti_51 rfl) fun a6 o c hM hN bN hO _ => ?_)
 have cq : New w c o := hN
 have dj : Chg [] w o := hM
 refine sqv hO rfl (r_assign rfl) fun _ hP => sqv hP rfl (r_assign rfl) fun _ hQ => sq_end ?_
 have dk := hQ.kp [(0, .string (Bs d)), (1, .int .i64 b), (2, .string (Bs k)), (6, pB c 0)] rfl
 refine then_normal (wp_seq (wp_seq (wp_region_lit ?_)))
 refine sqv dk rfl (r_move (dk.get rfl)) fun _ dl => sqv dl rfl (r_lss (dl.get rfl) rfl) fun _ dm => sqv dm rfl (r_move (dm.get rfl)) fun _ dn => ?_
 refine sq (opk_gval dn rfl rfl (g := true) (e := (decide (b < 0))) rfl (fun hg => r_move (dn.get rfl)) fun mp dp _ => ?_)
 refine sq (opk_gval dp rfl rfl (g := true) (e := (decide (b < 0))) rfl (fun hg => r_move (dp.get rfl)) fun mq dq _ => ?_)
 refine sq (opk_gval dq rfl rfl (g := true) (e := (decide (b < 0))) rfl (fun hg => r_slen (cv_get (dq.get rfl) hg) tU9) fun mr cr _ => ?_)
 refine sq (opk_gval cr rfl rfl (g := true) (e := (decide (b < 0))) rfl (fun hg => r_geq (cv_get (cr.get rfl) hg) (cv_get (cr.get rfl) hg)) fun ms ct _ => ?_)
 refine sqv ct rfl (r_pick_or (g := (true && ((decide (b < 0)) == false))) (ct.get rfl) (ct.get rfl) (fun he => g_mkf rfl he)) fun _ hR => sq_end ?_
 have bO := hR.kp [(0, .string (Bs d)), (1, .int .i64 b), (2, .string (Bs k)), (6, pB c 0), (19, .bool ((decide (b < 0)) || (decide ((d.length : Int) ≤ b))))] rfl
 refine then_normal ?_
 refine wp_cond_split (bO.get rfl) (fun hc => ?_) (fun hc => ?_)
 ·have hT := cp.1 ((b_or_t hc).imp (fun h => (of_decide_eq_true h)) (fun h => (of_decide_eq_true h)))
  clear hc
  refine wp_seq (wp_region_lit ?_)
  refine sqv bO rfl (r_build (vs := #[(0, .int .i64 6)]) (cells := #[.int .i64 6, .string (Bs []), .string (Bs []), Sl.v Sl.nil, .bool false]) (map_arr2 (ml2_cons rfl (ml2_nil))) ti_51 Tryz.underlying51 pl_51 (by kernel_rfl)) fun _ dr => sqv dr rfl (r_move (dr.get rfl)) fun _ ds => sqv ds rfl (r_slen (ds.get rfl) tU9) fun _ cu => ?_
  refine sq (opk_store cu bN (r_store (vs := [.int .i64 6, .string (Bs []), .string (Bs []), Sl.v Sl.nil, .bool false]) (cu.get rfl) (cu.get rfl) rfl ti_51 bN rfl (ones_all _ rfl)) fun mt t dt hU du => ?_)
  have hV : Box t c 51 [.int .i64 6, .string (Bs []), .string (Bs []), Sl.v Sl.nil, .bool false] := hU
  have hX := dj.storeNew cq dt
  have hY := cq.up dt.size
  refine sqv du rfl (r_assign (du.get rfl)) fun _ hZ => sqv hZ rfl (r_assign rfl) fun _ h0 => sq_end ?_
  have bP := h0.kp [(6, pB c 0), (7, .int .i64 (d.length : Int)), (8, .bool true)] rfl
  refine then_normal ?_
  refine wp_ret ?_
  refine then_ret ?_
  have h1 := hT t c hY  hX
  exact res_all (vs := [.agg #[.int .i64 6, .string (Bs []), .string (Bs []), Sl.v Sl.nil, .bool false], .int .i64 (d.length : Int), .bool true]) rfl bP ⟨res_of_cell bP rfl hV Tryz.underlying51 rfl ti_51, res_of_tmp bP rfl, res_of_tmp bP rfl, trivial⟩ h1
 ·have h2 := cp.2 ⟨(of_decide_eq_false (b_or_f hc).1), (of_decide_eq_false (b_or_f hc).2)⟩
  clear hc
  refine wp_skip ?_
  refine then_normal (wp_seq (wp_seq (wp_region_lit ?_)))
  refine sqv bO rfl (r_move (bO.get rfl)) fun _ dv => sqv dv rfl (r_sneq (dv.get rfl) rfl) fun _ h3 => sq_end ?_
  have bQ := h3.kp [(0, .string (Bs d)), (1, .int .i64 b), (2, .string (Bs k)), (6, pB c 0), (24, .bool (decide (k ≠ ([] : Str))))] rfl
  refine then_normal ?_
  have h4 := h2 o c cq  dj
  obtain ⟨J_196, dx, h5⟩ := h4
  refine wp_meet (fun a w => Ag 160 a [(0, .string (Bs d)), (1, .int .i64 b), (6, pB c 0)] ∧ Box w c 51 [.int .i64 0, .string (Bs []), .string (Bs []), Sl.v Sl.nil, .bool false] ∧ J_196 w) ?_ ?_
  ·refine wp_cond_split (bQ.get rfl) (fun hc => ?_) (fun hc => ?_)
   ·have h6 := dx.1 (of_decide_eq_true hc)
    clear hc
    refine wp_seq (wp_region_lit ?_)
    refine sqv bQ rfl (r_move (bQ.get rfl)) fun _ dy => ?_
    refine sq (opk_call dy rfl (r_call (args := #[.string (Bs k)]) Tryz.func46 (by decide) rfl (map_arr (ml_cons (dy.get rfl) ml_nil)) rfl) h6 fun mu mv cb dz _ h7 mx h8 => ?_)
    obtain ⟨i, rfl, h9⟩ := h8
    have ia := bN.kept h7 (.head _)
    refine sqv dz rfl (r_assign (dz.get rfl)) fun _ ib => sq_end ?_
    have dA := ib.kp [(0, .string (Bs d)), (1, .int .i64 b), (6, pB c 0), (9, .string (Bs i))] rfl
    refine then_normal (wp_seq (wp_region_lit ?_))
    refine sqv dA rfl (r_move (dA.get rfl)) fun _ dB => sqv dB rfl (r_assign (dB.get rfl)) fun _ id => sq_end ?_
    have ig := id.kp [(0, .string (Bs d)), (1, .int .i64 b), (6, pB c 0), (9, .string (Bs i)), (10, .int .i64 b)] rfl
    refine then_normal (wp_seq (wp_block ?_))
    obtain ⟨a1, bJ, ih, ii⟩ := h9
    refine wp_loop_st (σ := Int × World) (fun s a w => Ag 160 a [(0, .string (Bs d)), (1, .int .i64 b), (6, pB c 0), (9, .string (Bs i)), (10, .int .i64 s.1)] ∧ Box w c 51 [.int .i64 0, .string (Bs []), .string (Bs []), Sl.v Sl.nil, .bool false] ∧ w = s.2 ∧ a1 s.1 s.2) (fun s => bJ s.1 s.2) (b, cb) ⟨ig.kp [(0, .string (Bs d)), (1, .int .i64 b), (6, pB c 0), (9, .string (Bs i)), (10, .int .i64 b)] rfl, ia, rfl, ih⟩ ?_
    rintro ⟨f, p⟩ my w_ ⟨dC, ij, hw_, ik⟩
    have hw_ : p = w_ := hw_.symm
    subst hw_
    have il := ii f _ ik
    refine wp_seq (wp_seq (wp_region_lit ?_))
    refine sqv dC rfl (r_move (dC.get rfl)) fun _ dD => sqv dD rfl (r_move (dD.get rfl)) fun _ dG => sqv dG rfl (r_slen (dG.get rfl) tU9) fun _ cv => sqv cv rfl (r_lss (cv.get rfl) (cv.get rfl)) fun _ dH => sqv dH rfl (r_move (dH.get rfl)) fun _ dI => ?_
    refine sq (opk_gval dI rfl rfl (g := true) (e := (decide (f < (d.length : Int)))) rfl (fun hg => r_move (dI.get rfl)) fun mz dJ _ => ?_)
    refine sq (opk_gval dJ rfl rfl (g := true) (e := (decide (f < (d.length : Int)))) rfl (fun hg => r_move (dJ.get rfl)) fun mA dK _ => ?_)
    refine sq (opk_gval dK rfl rfl (g := true) (e := (decide (f < (d.length : Int)))) rfl (fun hg => r_move (dK.get rfl)) fun mB bR _ => ?_)
    obtain ⟨a2, im, io⟩ := il
    refine sq (opk_gcall bR rfl rfl (g := true) (e := (decide (f < (d.length : Int)))) rfl (fun hg => r_call (args := #[.string (Bs d), .int .i64 f, .string (Bs i)]) Tryz.func47 (by decide) rfl (map_arr (ml_cons (cv_get (bR.get rfl) hg) (ml_cons (cv_get (bR.get rfl) hg) (ml_cons (cv_get (bR.get rfl) hg) ml_nil)))) rfl) (fun hg => im (of_decide_eq_true (g_t hg))) fun mC m dL _ cx => ?_)
    have cy := ij.ext cx
    have mD : Chg [] p m := cx
    have dM := io m cx
    refine sq (opk_gval dL rfl rfl (g := true) (e := (decide (f < (d.length : Int)))) rfl (fun hg => r_not (cv_get (dL.get rfl) hg)) fun mF cz _ => ?_)
    refine sqv cz rfl (r_pick_and (g := (true && ((decide (f < (d.length : Int))) == true))) (cz.get rfl) (cz.get rfl) (fun he => g_mkt rfl he)) fun _ ip => sq_end ?_
    have bS := ip.kp [(0, .string (Bs d)), (1, .int .i64 b), (6, pB c 0), (9, .string (Bs i)), (10, .int .i64 f), (38, .bool ((decide (f < (d.length : Int))) && (!a2)))] rfl
    refine then_normal ?_
    refine wp_cond_split (bS.get rfl) (fun hc => ?_) (fun hc => ?_)
    ·have iq := dM.1 ⟨(of_decide_eq_true (b_and_t hc).1), (b_not_t (b_and_t hc).2)⟩
     clear hc
     refine wp_skip ?_
     refine then_normal (wp_block (wp_region_lit ?_))
     refine sqv bS rfl (r_move (bS.get rfl)) fun _ dN => ?_
     obtain ⟨ir, dO⟩ := iq
     refine sqv dN rfl (r_addI (dN.get rfl) rfl ir) fun _ dP => sqv dP rfl (r_assign (dP.get rfl)) fun _ it => sq_end ?_
     have iu := it.kp [(0, .string (Bs d)), (1, .int .i64 b), (6, pB c 0), (9, .string (Bs i)), (10, .int .i64 (f + 1))] rfl
     refine block_normal ?_
     have iv := iu.kp [(0, .string (Bs d)), (1, .int .i64 b), (6, pB c 0), (9, .string (Bs i)), (10, .int .i64 (f + 1))] rfl
     exact then_normal ⟨(f + 1, m), ⟨iv, cy, rfl, dO.1⟩, dO.2⟩
    ·have dQ := dM.2 ((b_and_f hc).imp (fun h => (of_decide_eq_false h)) (fun h => (b_not_f h)))
     clear hc
     refine wp_exit ?_
     refine then_exit ?_
     refine then_exit ?_
     refine block_hit ?_
     have dR := bS.kp [(0, .string (Bs d)), (1, .int .i64 b), (6, pB c 0), (9, .string (Bs i)), (10, .int .i64 f)] rfl
     refine then_normal (wp_seq (wp_region_lit ?_))
     refine sqv dR rfl (r_move (dR.get rfl)) fun _ dS => sqv dS rfl (r_move (dS.get rfl)) fun _ cA => sqv cA rfl (r_gtr (cA.get rfl) (cA.get rfl)) fun _ ix => sq_end ?_
     have bT := ix.kp [(0, .string (Bs d)), (1, .int .i64 b), (6, pB c 0), (9, .string (Bs i)), (10, .int .i64 f), (43, .bool (decide (b < f)))] rfl
     refine then_normal ?_
     refine wp_cond_split (bT.get rfl) (fun hc => ?_) (fun hc => ?_)
     ·have iy := dQ.1 (of_decide_eq_true hc)
      clear hc
      refine wp_seq (wp_region_lit ?_)
      refine sqv bT rfl (r_move (bT.get rfl)) fun _ dU => sqv dU rfl (r_move (dU.get rfl)) fun _ dV => sqv dV rfl (r_move (dV.get rfl)) fun _ bU => ?_
      obtain ⟨iz, iA⟩ := iy
      refine sqv bU rfl (r_sslice2 (bU.get rfl) (bU.get rfl) (bU.get rfl) tU9 iz) fun _ dX => sqv dX rfl (r_assign (dX.get rfl)) fun _ iB => sq_end ?_
      have dY := iB.kp [(6, pB c 0), (9, .string (Bs i)), (10, .int .i64 f), (11, .string (Bs ((List.drop b.toNat d).take (f.toNat - b.toNat))))] rfl
      refine then_normal (wp_seq (wp_seq (wp_region_lit ?_)))
      refine sqv dY rfl (r_move (dY.get rfl)) fun _ dZ => ?_
      refine sq (opk_call dZ rfl (r_call (args := #[.string (Bs i)]) Tryz.func30 (by decide) rfl (map_arr (ml_cons (dZ.get rfl) ml_nil)) rfl) iA fun mG mH bK d0 _ iC mI iD => ?_)
      obtain ⟨a3, rfl, d1⟩ := iD
      have cB := cy.kept iC (.head _)
      refine sqv d0 rfl (r_eql (d0.get rfl) rfl) fun _ iF => sq_end ?_
      have bB := iF.kp [(6, pB c 0), (10, .int .i64 f), (11, .string (Bs ((List.drop b.toNat d).take (f.toNat - b.toNat)))), (50, .bool (decide (a3 = 1)))] rfl
      refine then_normal ?_
      refine wp_cond_split (bB.get rfl) (fun hc => ?_) (fun hc => ?_)
      ·have iG := d1.1 (of_decide_eq_true hc)
       clear hc
       refine wp_region_lit ?_
       refine sqv bB rfl (r_move (bB.get rfl)) fun _ d2 => ?_
       refine sq (opk_call d2 rfl (r_call (args := #[.string (Bs ((List.drop b.toNat d).take (f.toNat - b.toNat))), .bool false]) Tryz.func48 (by decide) rfl (map_arr (ml_cons (d2.get rfl) (ml_cons rfl ml_nil))) rfl) iG fun mJ mK cc d3 _ iH mL iI => ?_)
       obtain ⟨n, rfl, iJ⟩ := iI
       have d4 := cB.kept iH (.head _)
       refine sqv d3 rfl (r_assign (d3.get rfl)) fun _ iK => sq_end ?_
       have d5 := iK.kp [(6, pB c 0), (10, .int .i64 f), (11, .string (Bs n))] rfl
       refine then_normal (wp_seq (wp_region_lit ?_))
       refine sqv d5 rfl (r_move (d5.get rfl)) fun _ d6 => sqv d6 rfl (r_build (vs := #[(0, .int .i64 3), (2, .string (Bs n)), (4, .bool true)]) (cells := #[.int .i64 3, .string (Bs []), .string (Bs n), Sl.v Sl.nil, .bool true]) (map_arr2 (ml2_cons rfl (ml2_cons (d6.get rfl) (ml2_cons rfl (ml2_nil))))) ti_51 Tryz.underlying51 pl_51 (by kernel_rfl)) fun _ d7 => sqv d7 rfl (r_move (d7.get rfl)) fun _ cD => ?_
       refine sq (opk_store cD d4 (r_store (vs := [.int .i64 3, .string (Bs []), .string (Bs n), Sl.v Sl.nil, .bool true]) (cD.get rfl) (cD.get rfl) rfl ti_51 d4 rfl (ones_all _ rfl)) fun mM u iL iM d8 => ?_)
       have iN : Box u c 51 [.int .i64 3, .string (Bs []), .string (Bs n), Sl.v Sl.nil, .bool true] := iM
       have iO : Chg [c] cc u := iL
       refine sqv d8 rfl (r_assign (d8.get rfl)) fun _ iP => sqv iP rfl (r_assign rfl) fun _ iQ => sq_end ?_
       have bX := iQ.kp [(6, pB c 0), (7, .int .i64 f), (8, .bool true)] rfl
       refine then_normal ?_
       refine wp_ret ?_
       refine then_ret ?_
       refine then_ret ?_
       have iR := iJ u    iO
       exact res_all (vs := [.agg #[.int .i64 3, .string (Bs []), .string (Bs n), Sl.v Sl.nil, .bool true], .int .i64 f, .bool true]) rfl bX ⟨res_of_cell bX rfl iN Tryz.underlying51 rfl ti_51, res_of_tmp bX rfl, res_of_tmp bX rfl, trivial⟩ iR
      ·have iS := d1.2 (of_decide_eq_false hc)
       clear hc
       refine wp_skip ?_
       refine then_normal (wp_seq (wp_region_lit ?_))
       refine sqv bB rfl (r_move (bB.get rfl)) fun _ d9 => sqv d9 rfl (r_build (vs := #[(0, .int .i64 3), (2, .string (Bs ((List.drop b.toNat d).take (f.toNat - b.toNat)))), (4, .bool true)]) (cells := #[.int .i64 3, .string (Bs []), .string (Bs ((List.drop b.toNat d).take (f.toNat - b.toNat))), Sl.v Sl.nil, .bool true]) (map_arr2 (ml2_cons rfl (ml2_cons (d9.get rfl) (ml2_cons rfl (ml2_nil))))) ti_51 Tryz.underlying51 pl_51 (by kernel_rfl)) fun _ fa => sqv fa rfl (r_move (fa.get rfl)) fun _ cF => ?_
       refine sq (opk_store cF cB (r_store (vs := [.int .i64 3, .string (Bs []), .string (Bs ((List.drop b.toNat d).take (f.toNat - b.toNat))), Sl.v Sl.nil, .bool true]) (cF.get rfl) (cF.get rfl) rfl ti_51 cB rfl (ones_all _ rfl)) fun mN x iT iU fb => ?_)
       have iX : Box x c 51 [.int .i64 3, .string (Bs []), .string (Bs ((List.drop b.toNat d).take (f.toNat - b.toNat))), Sl.v Sl.nil, .bool true] := iU
       have iY : Chg [c] bK x := iT
       refine sqv fb rfl (r_assign (fb.get rfl)) fun _ iZ => sqv iZ rfl (r_assign rfl) fun _ i0 => sq_end ?_
       have bY := i0.kp [(6, pB c 0), (7, .int .i64 f), (8, .bool true)] rfl
       refine then_normal ?_
       refine wp_ret ?_
       refine then_ret ?_
       refine then_ret ?_
       have i1 := iS x    iY
       exact res_all (vs := [.agg #[.int .i64 3, .string (Bs []), .string (Bs ((List.drop b.toNat d).take (f.toNat - b.toNat))), Sl.v Sl.nil, .bool true], .int .i64 f, .bool true]) rfl bY ⟨res_of_cell bY rfl iX Tryz.underlying51 rfl ti_51, res_of_tmp bY rfl, res_of_tmp bY rfl, trivial⟩ i1
     ·have i2 := dQ.2 (of_decide_eq_false hc)
      clear hc
      refine wp_skip ?_
      have i3 := bT.kp [(0, .string (Bs d)), (1, .int .i64 b), (6, pB c 0)] rfl
      exact then_normal ⟨i3, cy, i2⟩
   ·have i4 := dx.2 (of_decide_eq_false hc)
    clear hc
    refine wp_skip ?_
    have i5 := bQ.kp [(0, .string (Bs d)), (1, .int .i64 b), (6, pB c 0)] rfl
    exact then_normal ⟨i5, bN, i4⟩
  ·intro mO a4 hm
   obtain ⟨fc, fd, i6⟩ := hm
   have i7 := h5 a4 i6
   refine then_normal (wp_seq (wp_block (wp_seq (wp_region_lit ?_))))
   refine sqv fc rfl (r_move (fc.get rfl)) fun _ ff => sqv ff rfl (r_move (ff.get rfl)) fun _ cH => ?_
   obtain ⟨i8, fg⟩ := i7
   refine sqv cH rfl (r_sindex (cH.get rfl) (cH.get rfl) tU9 i8) fun _ fh => sqv fh rfl (r_neq (fh.get rfl) rfl) fun _ fi => sqv fi rfl (r_assign (fi.get rfl)) fun _ i9 => sq_end ?_
   have bC := i9.kp [(0, .string (Bs d)), (1, .int .i64 b), (6, pB c 0), (56, .bool (decide (((d.getD b.toNat 0).toNat : Int) ≠ 60)))] rfl
   refine then_normal ?_
   refine wp_cond_split (bC.get rfl) (fun hc => ?_) (fun hc => ?_)
   ·have ja := fg.1 (of_decide_eq_true hc)
    clear hc
    refine wp_seq (wp_region_lit ?_)
    refine sqv bC rfl (r_move (bC.get rfl)) fun _ fj => sqv fj rfl (r_move (fj.get rfl)) fun _ cI => ?_
    refine sq (opk_call cI rfl (r_call (args := #[.string (Bs d), .int .i64 b]) Tryz.func49 (by decide) rfl (map_arr (ml_cons (cI.get rfl) (ml_cons (cI.get rfl) ml_nil))) rfl) ja fun mP mQ cd fk _ jb mR jc => ?_)
    obtain ⟨y, z, aa, ab, ad, a5, r_2_371, rfl, jd⟩ := jc
    have fl := fd.kept jb (.head _)
    refine sqv fk rfl (r_extract (fk.get rfl) rfl) fun _ fm => sqv fm rfl (r_extract (fm.get rfl) rfl) fun _ fn => sqv fn rfl (r_extract (fn.get rfl) rfl) fun _ cJ => ?_
    refine sq (opk_store cJ fl (r_store (vs := [.int .i64 y, .string (Bs z), .string (Bs aa), Sl.v ab, .bool ad]) (cJ.get rfl) (cJ.get rfl) rfl ti_51 fl rfl (ones_all _ rfl)) fun mS af jf jg fo => ?_)
    have jh : Box af c 51 [.int .i64 y, .string (Bs z), .string (Bs aa), Sl.v ab, .bool ad] := jg
    have ji : Chg [c] cd af := jf
    refine sqv fo rfl (r_assign (fo.get rfl)) fun _ fp => sqv fp rfl (r_assign (fp.get rfl)) fun _ jj => sq_end ?_
    have bZ := jj.kp [(6, pB c 0), (7, .int .i64 a5), (8, .bool r_2_371)] rfl
    refine then_normal ?_
    refine wp_ret ?_
    refine block_ret ?_
    refine then_ret ?_
    have jk := jd af    ji
    exact res_all (vs := [.agg #[.int .i64 y, .string (Bs z), .string (Bs aa), Sl.v ab, .bool ad], .int .i64 a5, .bool r_2_371]) rfl bZ ⟨res_of_cell bZ rfl jh Tryz.underlying51 rfl ti_51, res_of_tmp bZ rfl, res_of_tmp bZ rfl, trivial⟩ jk
   ·have jl := fg.2 (of_decide_eq_false hc)
    clear hc
    refine wp_seq (wp_region_lit ?_)
    refine sqv bC rfl (r_move (bC.get rfl)) fun _ fq => sqv fq rfl (r_move (fq.get rfl)) fun _ fr => ?_
    obtain ⟨jm, jn⟩ := jl
    refine sqv fr rfl (r_addI (fr.get rfl) rfl jm) fun _ cK => ?_
    refine sq (opk_call cK rfl (r_call (args := #[.string (Bs d), .int .i64 (b + 1)]) Tryz.func50 (by decide) rfl (map_arr (ml_cons (cK.get rfl) (ml_cons (cK.get rfl) ml_nil))) rfl) jn fun mT mU cf fs _ jo mV jp => ?_)
    obtain ⟨a7, rfl, ft⟩ := jp
    have fu := fd.kept jo (.head _)
    refine sqv fs rfl (r_assign (fs.get rfl)) fun _ jq => sq_end ?_
    have bD := jq.kp [(0, .string (Bs d)), (1, .int .i64 b), (6, pB c 0), (67, .bool a7)] rfl
    refine then_normal ?_
    refine wp_cond_split (bD.get rfl) (fun hc => ?_) (fun hc => ?_)
    ·have jr := ft.1 hc
     clear hc
     refine wp_seq (wp_region_lit ?_)
     refine sqv bD rfl (r_move (bD.get rfl)) fun _ fv => sqv fv rfl (r_move (fv.get rfl)) fun _ fx => ?_
     obtain ⟨js, jt⟩ := jr
     refine sqv fx rfl (r_addI (fx.get rfl) rfl js) fun _ cL => ?_
     refine sq (opk_call cL rfl (r_call (args := #[.string (Bs d), .int .i64 (b + 1), .int .i64 1]) Tryz.func51 (by decide) rfl (map_arr (ml_cons (cL.get rfl) (ml_cons (cL.get rfl) (ml_cons rfl ml_nil)))) rfl) jt fun mX mY cg fy _ ju mZ jv => ?_)
     obtain ⟨ag, ah, ai, aj, ak, a8, a9, rfl, jx⟩ := jv
     have fz := fu.kept ju (.head _)
     refine sqv fy rfl (r_extract (fy.get rfl) rfl) fun _ fA => sqv fA rfl (r_extract (fA.get rfl) rfl) fun _ fB => sqv fB rfl (r_extract (fB.get rfl) rfl) fun _ cM => ?_
     refine sq (opk_store cM fz (r_store (vs := [.int .i64 ag, .string (Bs ah), .string (Bs ai), Sl.v aj, .bool ak]) (cM.get rfl) (cM.get rfl) rfl ti_51 fz rfl (ones_all _ rfl)) fun nc al jy jz fC => ?_)
     have jA : Box al c 51 [.int .i64 ag, .string (Bs ah), .string (Bs ai), Sl.v aj, .bool ak] := jz
     have jB : Chg [c] cg al := jy
     refine sqv fC rfl (r_assign (fC.get rfl)) fun _ fD => sqv fD rfl (r_assign (fD.get rfl)) fun _ jC => sq_end ?_
     have b0 := jC.kp [(6, pB c 0), (7, .int .i64 a8), (8, .bool a9)] rfl
     refine then_normal ?_
     refine wp_ret ?_
     refine block_ret ?_
     refine then_ret ?_
     have jD := jx al    jB
     exact res_all (vs := [.agg #[.int .i64 ag, .string (Bs ah), .string (Bs ai), Sl.v aj, .bool ak], .int .i64 a8, .bool a9]) rfl b0 ⟨res_of_cell b0 rfl jA Tryz.underlying51 rfl ti_51, res_of_tmp b0 rfl, res_of_tmp b0 rfl, trivial⟩ jD
    ·have jF := ft.2 hc
     clear hc
     refine wp_seq (wp_region_lit ?_)
     refine sqv bD rfl (r_move (bD.get rfl)) fun _ fF => sqv fF rfl (r_move (fF.get rfl)) fun _ cN => ?_
     refine sq (opk_call cN rfl (r_call (args := #[.string (Bs d), .int .i64 b, .string (Bs ([60, 47] : Str))]) Tryz.func52 (by decide) rfl (map_arr (ml_cons (cN.get rfl) (ml_cons (cN.get rfl) (ml_cons rfl ml_nil)))) rfl) jF fun nd nf ba fG _ jG ng jH => ?_)
     obtain ⟨l, rfl, jI⟩ := jH
     have jJ := fu.kept jG (.head _)
     refine sqv fG rfl (r_move (fG.get rfl)) fun _ fH => ?_
     refine sq (opk_gval fH rfl rfl (g := true) (e := l) rfl (fun hg => r_move (fH.get rfl)) fun nh fJ _ => ?_)
     refine sq (opk_gval fJ rfl rfl (g := true) (e := l) rfl (fun hg => r_move (fJ.get rfl)) fun ni fK _ => ?_)
     obtain ⟨jK, jL⟩ := jI
     refine sq (opk_gval fK rfl rfl (g := true) (e := l) rfl (fun hg => r_addI (cv_get (fK.get rfl) hg) rfl (jK (g_t hg))) fun nj cO _ => ?_)
     obtain ⟨bb, jM, jN⟩ := jL
     refine sq (opk_gcall cO rfl rfl (g := true) (e := l) rfl (fun hg => r_call (args := #[.string (Bs d), .int .i64 (b + 2)]) Tryz.func50 (by decide) rfl (map_arr (ml_cons (cv_get (cO.get rfl) hg) (ml_cons (cv_get (cO.get rfl) hg) ml_nil))) rfl) (fun hg => jM (g_t hg)) fun nk am cP _ cQ => ?_)
     have fL := jJ.ext cQ
     have nl : Chg [] ba am := cQ
     have fM := jN am cQ
     refine sqv cP rfl (r_pick_and (g := (true && (l == true))) (cP.get rfl) (cP.get rfl) (fun he => g_mkt rfl he)) fun _ fN => sqv fN rfl (r_assign (fN.get rfl)) fun _ jO => sq_end ?_
     have bF := jO.kp [(0, .string (Bs d)), (1, .int .i64 b), (6, pB c 0), (79, .bool (l && bb))] rfl
     refine then_normal ?_
     refine wp_cond_split (bF.get rfl) (fun hc => ?_) (fun hc => ?_)
     ·have jP := fM.1 ⟨(b_and_t hc).1, (b_and_t hc).2⟩
      clear hc
      refine wp_seq (wp_region_lit ?_)
      refine sqv bF rfl (r_move (bF.get rfl)) fun _ fO => sqv fO rfl (r_move (fO.get rfl)) fun _ fP => ?_
      obtain ⟨jQ, jR⟩ := jP
      refine sqv fP rfl (r_addI (fP.get rfl) rfl jQ) fun _ cS => ?_
      refine sq (opk_call cS rfl (r_call (args := #[.string (Bs d), .int .i64 (b + 2), .int .i64 2]) Tryz.func51 (by decide) rfl (map_arr (ml_cons (cS.get rfl) (ml_cons (cS.get rfl) (ml_cons rfl ml_nil)))) rfl) jR fun nm nn ch fQ _ jS no jT => ?_)
      obtain ⟨an, ao, ap, aq, ar, bd, bf, rfl, jU⟩ := jT
      have fR := fL.kept jS (.head _)
      refine sqv fQ rfl (r_extract (fQ.get rfl) rfl) fun _ fS => sqv fS rfl (r_extract (fS.get rfl) rfl) fun _ fT => sqv fT rfl (r_extract (fT.get rfl) rfl) fun _ cT => ?_
      refine sq (opk_store cT fR (r_store (vs := [.int .i64 an, .string (Bs ao), .string (Bs ap), Sl.v aq, .bool ar]) (cT.get rfl) (cT.get rfl) rfl ti_51 fR rfl (ones_all _ rfl)) fun np au jV jX fU => ?_)
      have jY : Box au c 51 [.int .i64 an, .string (Bs ao), .string (Bs ap), Sl.v aq, .bool ar] := jX
      have jZ : Chg [c] ch au := jV
      refine sqv fU rfl (r_assign (fU.get rfl)) fun _ fV => sqv fV rfl (r_assign (fV.get rfl)) fun _ ka => sq_end ?_
      have b1 := ka.kp [(6, pB c 0), (7, .int .i64 bd), (8, .bool bf)] rfl
      refine then_normal ?_
      refine wp_ret ?_
      refine block_ret ?_
      refine then_ret ?_
      have kb := jU au    jZ
      exact res_all (vs := [.agg #[.int .i64 an, .string (Bs ao), .string (Bs ap), Sl.v aq, .bool ar], .int .i64 bd, .bool bf]) rfl b1 ⟨res_of_cell b1 rfl jY Tryz.underlying51 rfl ti_51, res_of_tmp b1 rfl, res_of_tmp b1 rfl, trivial⟩ kb
     ·have kc := fM.2 ((b_and_f hc).imp (fun h => h) (fun h => h))
      clear hc
      refine wp_seq (wp_region_lit ?_)
      refine sqv bF rfl (r_move (bF.get rfl)) fun _ fX => sqv fX rfl (r_move (fX.get rfl)) fun _ cU => ?_
      refine sq (opk_call cU rfl (r_call (args := #[.string (Bs d), .int .i64 b, .string (Bs ([60, 33, 45, 45] : Str))]) Tryz.func52 (by decide) rfl (map_arr (ml_cons (cU.get rfl) (ml_cons (cU.get rfl) (ml_cons rfl ml_nil)))) rfl) kc fun nq nr ci fY _ kd nt kf => ?_)
      obtain ⟨bg, rfl, fZ⟩ := kf
      have f0 := fL.kept kd (.head _)
      refine sqv fY rfl (r_assign (fY.get rfl)) fun _ kg => sq_end ?_
      have bG := kg.kp [(0, .string (Bs d)), (1, .int .i64 b), (6, pB c 0), (96, .bool bg)] rfl
      refine then_normal ?_
      refine wp_cond_split (bG.get rfl) (fun hc => ?_) (fun hc => ?_)
      ·have kh := fZ.1 hc
       clear hc
       refine wp_seq (wp_region_lit ?_)
       refine sqv bG rfl (r_move (bG.get rfl)) fun _ f1 => sqv f1 rfl (r_move (f1.get rfl)) fun _ f2 => ?_
       obtain ⟨ki, kj⟩ := kh
       refine sqv f2 rfl (r_addI (f2.get rfl) rfl ki) fun _ cY => ?_
       refine sq (opk_call cY rfl (r_call (args := #[.string (Bs d), .int .i64 (b + 4)]) Tryz.func53 (by decide) rfl (map_arr (ml_cons (cY.get rfl) (ml_cons (cY.get rfl) ml_nil))) rfl) kj fun nu nv cj f3 _ kk nx kl => ?_)
       obtain ⟨av, ax, ay, az, aA, bi, bj, rfl, km⟩ := kl
       have f4 := f0.kept kk (.head _)
       refine sqv f3 rfl (r_extract (f3.get rfl) rfl) fun _ f5 => sqv f5 rfl (r_extract (f5.get rfl) rfl) fun _ f6 => sqv f6 rfl (r_extract (f6.get rfl) rfl) fun _ cZ => ?_
       refine sq (opk_store cZ f4 (r_store (vs := [.int .i64 av, .string (Bs ax), .string (Bs ay), Sl.v az, .bool aA]) (cZ.get rfl) (cZ.get rfl) rfl ti_51 f4 rfl (ones_all _ rfl)) fun ny aB kn ko f7 => ?_)
       have kq : Box aB c 51 [.int .i64 av, .string (Bs ax), .string (Bs ay), Sl.v az, .bool aA] := ko
       have kr : Chg [c] cj aB := kn
       refine sqv f7 rfl (r_assign (f7.get rfl)) fun _ f8 => sqv f8 rfl (r_assign (f8.get rfl)) fun _ ks => sq_end ?_
       have b2 := ks.kp [(6, pB c 0), (7, .int .i64 bi), (8, .bool bj)] rfl
       refine then_normal ?_
       refine wp_ret ?_
       refine block_ret ?_
       refine then_ret ?_
       have kt := km aB    kr
       exact res_all (vs := [.agg #[.int .i64 av, .string (Bs ax), .string (Bs ay), Sl.v az, .bool aA], .int .i64 bi, .bool bj]) rfl b2 ⟨res_of_cell b2 rfl kq Tryz.underlying51 rfl ti_51, res_of_tmp b2 rfl, res_of_tmp b2 rfl, trivial⟩ kt
      ·have ku := fZ.2 hc
       clear hc
       refine wp_seq (wp_region_lit ?_)
       refine sqv bG rfl (r_move (bG.get rfl)) fun _ f9 => sqv f9 rfl (r_move (f9.get rfl)) fun _ c0 => ?_
       refine sq (opk_call c0 rfl (r_call (args := #[.string (Bs d), .int .i64 b, .string (Bs ([60, 33, 100, 111, 99, 116, 121, 112, 101] : Str))]) Tryz.func52 (by decide) rfl (map_arr (ml_cons (c0.get rfl) (ml_cons (c0.get rfl) (ml_cons rfl ml_nil)))) rfl) ku fun nz nA ck ga _ kv nB kx => ?_)
       obtain ⟨bk, rfl, gc⟩ := kx
       have gd := f0.kept kv (.head _)
       refine sqv ga rfl (r_assign (ga.get rfl)) fun _ ky => sq_end ?_
       have bH := ky.kp [(0, .string (Bs d)), (1, .int .i64 b), (6, pB c 0), (107, .bool bk)] rfl
       refine then_normal ?_
       refine wp_cond_split (bH.get rfl) (fun hc => ?_) (fun hc => ?_)
       ·have kz := gc.1 hc
        clear hc
        refine wp_seq (wp_region_lit ?_)
        refine sqv bH rfl (r_move (bH.get rfl)) fun _ gf => sqv gf rfl (r_move (gf.get rfl)) fun _ gg => ?_
        obtain ⟨kA, kB⟩ := kz
        refine sqv gg rfl (r_addI (gg.get rfl) rfl kA) fun _ c1 => ?_
        refine sq (opk_call c1 rfl (r_call (args := #[.string (Bs d), .int .i64 (b + 9)]) Tryz.func54 (by decide) rfl (map_arr (ml_cons (c1.get rfl) (ml_cons (c1.get rfl) ml_nil))) rfl) kB fun nC nD cl gh _ kC nG kD => ?_)
        obtain ⟨aC, aD, aG, aH, aI, bo, bp, rfl, kF⟩ := kD
        have gj := gd.kept kC (.head _)
        refine sqv gh rfl (r_extract (gh.get rfl) rfl) fun _ gm => sqv gm rfl (r_extract (gm.get rfl) rfl) fun _ gq => sqv gq rfl (r_extract (gq.get rfl) rfl) fun _ c2 => ?_
        refine sq (opk_store c2 gj (r_store (vs := [.int .i64 aC, .string (Bs aD), .string (Bs aG), Sl.v aH, .bool aI]) (c2.get rfl) (c2.get rfl) rfl ti_51 gj rfl (ones_all _ rfl)) fun nH aJ kG kH gu => ?_)
        have kI : Box aJ c 51 [.int .i64 aC, .string (Bs aD), .string (Bs aG), Sl.v aH, .bool aI] := kH
        have kJ : Chg [c] cl aJ := kG
        refine sqv gu rfl (r_assign (gu.get rfl)) fun _ gG => sqv gG rfl (r_assign (gG.get rfl)) fun _ kK => sq_end ?_
        have b3 := kK.kp [(6, pB c 0), (7, .int .i64 bo), (8, .bool bp)] rfl
        refine then_normal ?_
        refine wp_ret ?_
        refine block_ret ?_
        refine then_ret ?_
        have kL := kF aJ    kJ
        exact res_all (vs := [.agg #[.int .i64 aC, .string (Bs aD), .string (Bs aG), Sl.v aH, .bool aI], .int .i64 bo, .bool bp]) rfl b3 ⟨res_of_cell b3 rfl kI Tryz.underlying51 rfl ti_51, res_of_tmp b3 rfl, res_of_tmp b3 rfl, trivial⟩ kL
       ·have kM := gc.2 hc
        clear hc
        refine wp_seq (wp_region_lit ?_)
        refine sqv bH rfl (r_move (bH.get rfl)) fun _ gJ => sqv gJ rfl (r_move (gJ.get rfl)) fun _ c3 => ?_
        refine sq (opk_call c3 rfl (r_call (args := #[.string (Bs d), .int .i64 b, .string (Bs ([60, 47, 62] : Str))]) Tryz.func52 (by decide) rfl (map_arr (ml_cons (c3.get rfl) (ml_cons (c3.get rfl) (ml_cons rfl ml_nil)))) rfl) kM fun nI nJ bL gU _ kN nK kO => ?_)
        obtain ⟨bq, rfl, gY⟩ := kO
        have c4 := gd.kept kN (.head _)
        refine sqv gU rfl (r_assign (gU.get rfl)) fun _ kP => sq_end ?_
        have b4 := kP.kp [(0, .string (Bs d)), (1, .int .i64 b), (6, pB c 0), (118, .bool bq)] rfl
        refine then_normal ?_
        refine wp_cond_split (b4.get rfl) (fun hc => ?_) (fun hc => ?_)
        ·have kQ := gY.1 hc
         clear hc
         refine wp_seq (wp_region_lit ?_)
         refine sqv b4 rfl (r_build (vs := #[]) (cells := #[.int .i64 0, .string (Bs []), .string (Bs []), Sl.v Sl.nil, .bool false]) (map_arr2 ml2_nil) ti_51 Tryz.underlying51 pl_51 (by kernel_rfl)) fun _ g0 => sqv g0 rfl (r_move (g0.get rfl)) fun _ g4 => ?_
         obtain ⟨kR, kS⟩ := kQ
         refine sqv g4 rfl (r_addI (g4.get rfl) rfl kR) fun _ c5 => ?_
         refine sq (opk_store c5 c4 (r_store (vs := [.int .i64 0, .string (Bs []), .string (Bs []), Sl.v Sl.nil, .bool false]) (c5.get rfl) (c5.get rfl) rfl ti_51 c4 rfl (ones_all _ rfl)) fun nL aK kT kU g5 => ?_)
         have kV : Box aK c 51 [.int .i64 0, .string (Bs []), .string (Bs []), Sl.v Sl.nil, .bool false] := kU
         have kX : Chg [c] bL aK := kT
         refine sqv g5 rfl (r_assign (g5.get rfl)) fun _ kY => sqv kY rfl (r_assign rfl) fun _ kZ => sq_end ?_
         have b5 := kZ.kp [(6, pB c 0), (7, .int .i64 (b + 3)), (8, .bool false)] rfl
         refine then_normal ?_
         refine wp_ret ?_
         refine block_ret ?_
         refine then_ret ?_
         have la := kS aK    kX
         exact res_all (vs := [.agg #[.int .i64 0, .string (Bs []), .string (Bs []), Sl.v Sl.nil, .bool false], .int .i64 (b + 3), .bool false]) rfl b5 ⟨res_of_cell b5 rfl kV Tryz.underlying51 rfl ti_51, res_of_tmp b5 rfl, res_of_tmp b5 rfl, trivial⟩ la
        ·have lb := gY.2 hc
         clear hc
         refine wp_seq (wp_seq (wp_region_lit ?_))
         refine sqv b4 rfl (r_move (b4.get rfl)) fun _ g6 => sqv g6 rfl (r_move (g6.get rfl)) fun _ c6 => ?_
         refine sq (opk_call c6 rfl (r_call (args := #[.string (Bs d), .int .i64 b, .string (Bs ([60, 33] : Str))]) Tryz.func52 (by decide) rfl (map_arr (ml_cons (c6.get rfl) (ml_cons (c6.get rfl) (ml_cons rfl ml_nil)))) rfl) lb fun nM nN cm g7 _ lc nO ld => ?_)
         obtain ⟨q, rfl, lf⟩ := ld
         have g8 := c4.kept lc (.head _)
         refine sqv g7 rfl (r_assign (g7.get rfl)) fun _ lg => sq_end ?_
         have b6 := lg.kp [(0, .string (Bs d)), (1, .int .i64 b), (6, pB c 0), (125, .bool q)] rfl
         refine then_normal ?_
         obtain ⟨bs, g9, lh⟩ := lf
         refine wp_meet (fun a w => ∃ r : Bool, Ag 160 a [(0, .string (Bs d)), (1, .int .i64 b), (6, pB c 0), (125, .bool r)] ∧ Box w c 51 [.int .i64 0, .string (Bs []), .string (Bs []), Sl.v Sl.nil, .bool false] ∧ bs r w) ?_ ?_
         ·refine wp_cond_split (b6.get rfl) (fun hc => ?_) (fun hc => ?_)
          ·have li := g9.1 hc
           clear hc
           refine wp_skip ?_
           have lj := b6.kp [(0, .string (Bs d)), (1, .int .i64 b), (6, pB c 0), (125, .bool q)] rfl
           exact then_normal ⟨q, lj, g8, li⟩
          ·have lk := g9.2 hc
           clear hc
           refine wp_region_lit ?_
           refine sqv b6 rfl (r_move (b6.get rfl)) fun _ ha => sqv ha rfl (r_move (ha.get rfl)) fun _ c7 => ?_
           refine sq (opk_call c7 rfl (r_call (args := #[.string (Bs d), .int .i64 b, .string (Bs ([60, 47] : Str))]) Tryz.func52 (by decide) rfl (map_arr (ml_cons (c7.get rfl) (ml_cons (c7.get rfl) (ml_cons rfl ml_nil)))) rfl) lk fun nP nQ di hb _ ll nR lm => ?_)
           obtain ⟨j, rfl, ln⟩ := lm
           have lo := g8.kept ll (.head _)
           refine sqv hb rfl (r_move (hb.get rfl)) fun _ hd => ?_
           refine sq (opk_gval hd rfl rfl (g := true) (e := j) rfl (fun hg => r_move (hd.get rfl)) fun nS hf _ => ?_)
           obtain ⟨lp, lq⟩ := ln
           refine sq (opk_gval hf rfl rfl (g := true) (e := j) rfl (fun hg => r_addI (cv_get (hf.get rfl) hg) rfl (lp (g_t hg))) fun nU hh _ => ?_)
           refine sq (opk_gval hh rfl rfl (g := true) (e := j) rfl (fun hg => r_move (hh.get rfl)) fun nV hi _ => ?_)
           refine sq (opk_gval hi rfl rfl (g := true) (e := j) rfl (fun hg => r_slen (cv_get (hi.get rfl) hg) tU9) fun nX c8 _ => ?_)
           refine sq (opk_gval c8 rfl rfl (g := true) (e := j) rfl (fun hg => r_lss (cv_get (c8.get rfl) hg) (cv_get (c8.get rfl) hg)) fun nY c9 _ => ?_)
           refine sqv c9 rfl (r_pick_and (g := (true && (j == true))) (c9.get rfl) (c9.get rfl) (fun he => g_mkt rfl he)) fun _ hj => sqv hj rfl (r_assign (hj.get rfl)) fun _ lr => sq_end ?_
           have ls := lr.kp [(0, .string (Bs d)), (1, .int .i64 b), (6, pB c 0), (125, .bool (j && (decide ((b + 2) < (d.length : Int)))))] rfl
           have lu := ls.kp [(0, .string (Bs d)), (1, .int .i64 b), (6, pB c 0), (125, .bool (j && (decide ((b + 2) < (d.length : Int)))))] rfl
           exact then_normal ⟨(j && (decide ((b + 2) < (d.length : Int)))), lu, lo, lq⟩
         ·intro nZ bt hm
          obtain ⟨r, bI, hk, lv⟩ := hm
          have hl := lh r bt lv
          refine then_normal ?_
          refine wp_cond_split (bI.get rfl) (fun hc => ?_) (fun hc => ?_)
          ·have lx := hl.1 hc
           clear hc
           refine wp_seq (wp_region_lit ?_)
           refine sqv bI rfl (r_move (bI.get rfl)) fun _ hn => sqv hn rfl (r_move (hn.get rfl)) fun _ ho => ?_
           obtain ⟨ly, lz⟩ := lx
           refine sqv ho rfl (r_addI (ho.get rfl) rfl ly) fun _ da => ?_
           refine sq (opk_call da rfl (r_call (args := #[.string (Bs d), .int .i64 (b + 2)]) Tryz.func55 (by decide) rfl (map_arr (ml_cons (da.get rfl) (ml_cons (da.get rfl) ml_nil))) rfl) lz fun n0 n1 cn hp _ lA n2 lB => ?_)
           obtain ⟨aL, aM, aN, aO, aP, bu, bv, rfl, lC⟩ := lB
           have hq := hk.kept lA (.head _)
           refine sqv hp rfl (r_extract (hp.get rfl) rfl) fun _ hr => sqv hr rfl (r_extract (hr.get rfl) rfl) fun _ hs => sqv hs rfl (r_extract (hs.get rfl) rfl) fun _ db => ?_
           refine sq (opk_store db hq (r_store (vs := [.int .i64 aL, .string (Bs aM), .string (Bs aN), Sl.v aO, .bool aP]) (db.get rfl) (db.get rfl) rfl ti_51 hq rfl (ones_all _ rfl)) fun n3 aQ lD lF ht => ?_)
           have lG : Box aQ c 51 [.int .i64 aL, .string (Bs aM), .string (Bs aN), Sl.v aO, .bool aP] := lF
           have lH : Chg [c] cn aQ := lD
           refine sqv ht rfl (r_assign (ht.get rfl)) fun _ hu => sqv hu rfl (r_assign (hu.get rfl)) fun _ lI => sq_end ?_
           have b7 := lI.kp [(6, pB c 0), (7, .int .i64 bu), (8, .bool bv)] rfl
           refine then_normal ?_
           refine wp_ret ?_
           refine block_ret ?_
           refine then_ret ?_
           have lJ := lC aQ    lH
           exact res_all (vs := [.agg #[.int .i64 aL, .string (Bs aM), .string (Bs aN), Sl.v aO, .bool aP], .int .i64 bu, .bool bv]) rfl b7 ⟨res_of_cell b7 rfl lG Tryz.underlying51 rfl ti_51, res_of_tmp b7 rfl, res_of_tmp b7 rfl, trivial⟩ lJ
          ·have lK := hl.2 hc
           clear hc
           refine wp_seq (wp_region_lit ?_)
           refine sqv bI rfl (r_move (bI.get rfl)) fun _ hv => sqv hv rfl (r_move (hv.get rfl)) fun _ dc => ?_
           refine sq (opk_call dc rfl (r_call (args := #[.string (Bs d), .int .i64 b, .string (Bs ([60, 63] : Str))]) Tryz.func52 (by decide) rfl (map_arr (ml_cons (dc.get rfl) (ml_cons (dc.get rfl) (ml_cons rfl ml_nil)))) rfl) lK fun n4 n5 bM hx _ lL n6 lM => ?_)
           obtain ⟨bx, rfl, hy⟩ := lM
           have dd := hk.kept lL (.head _)
           refine sqv hx rfl (r_assign (hx.get rfl)) fun _ lN => sq_end ?_
           have b8 := lN.kp [(0, .string (Bs d)), (1, .int .i64 b), (6, pB c 0), (146, .bool bx)] rfl
           refine then_normal ?_
           refine wp_cond_split (b8.get rfl) (fun hc => ?_) (fun hc => ?_)
           ·have lO := hy.1 hc
            clear hc
            refine wp_seq (wp_region_lit ?_)
            refine sqv b8 rfl (r_move (b8.get rfl)) fun _ hz => sqv hz rfl (r_move (hz.get rfl)) fun _ hA => ?_
            obtain ⟨lP, lQ⟩ := lO
            refine sqv hA rfl (r_addI (hA.get rfl) rfl lP) fun _ df => ?_
            refine sq (opk_call df rfl (r_call (args := #[.string (Bs d), .int .i64 (b + 1)]) Tryz.func55 (by decide) rfl (map_arr (ml_cons (df.get rfl) (ml_cons (df.get rfl) ml_nil))) rfl) lQ fun n7 n8 co hB _ lR n9 lS => ?_)
            obtain ⟨aR, aS, aU, aV, aX, bz, bA, rfl, lU⟩ := lS
            have hC := dd.kept lR (.head _)
            refine sqv hB rfl (r_extract (hB.get rfl) rfl) fun _ hD => sqv hD rfl (r_extract (hD.get rfl) rfl) fun _ hF => sqv hF rfl (r_extract (hF.get rfl) rfl) fun _ dg => ?_
            refine sq (opk_store dg hC (r_store (vs := [.int .i64 aR, .string (Bs aS), .string (Bs aU), Sl.v aV, .bool aX]) (dg.get rfl) (dg.get rfl) rfl ti_51 hC rfl (ones_all _ rfl)) fun oa aY lV lX hG => ?_)
            have lY : Box aY c 51 [.int .i64 aR, .string (Bs aS), .string (Bs aU), Sl.v aV, .bool aX] := lX
            have lZ : Chg [c] co aY := lV
            refine sqv hG rfl (r_assign (hG.get rfl)) fun _ hH => sqv hH rfl (r_assign (hH.get rfl)) fun _ ma => sq_end ?_
            have b9 := ma.kp [(6, pB c 0), (7, .int .i64 bz), (8, .bool bA)] rfl
            refine then_normal ?_
            refine wp_ret ?_
            refine block_ret ?_
            refine then_ret ?_
            have mb := lU aY    lZ
            exact res_all (vs := [.agg #[.int .i64 aR, .string (Bs aS), .string (Bs aU), Sl.v aV, .bool aX], .int .i64 bz, .bool bA]) rfl b9 ⟨res_of_cell b9 rfl lY Tryz.underlying51 rfl ti_51, res_of_tmp b9 rfl, res_of_tmp b9 rfl, trivial⟩ mb
           ·have mc := hy.2 hc
            clear hc
            refine wp_skip ?_
            refine block_normal ?_
            refine then_normal (wp_seq (wp_region_lit ?_))
            refine sqv b8 rfl (r_build (vs := #[(0, .int .i64 3), (2, .string (Bs ([60] : Str)))]) (cells := #[.int .i64 3, .string (Bs []), .string (Bs ([60] : Str)), Sl.v Sl.nil, .bool false]) (map_arr2 (ml2_cons rfl (ml2_cons rfl (ml2_nil)))) ti_51 Tryz.underlying51 pl_51 (by kernel_rfl)) fun _ hI => sqv hI rfl (r_move (hI.get rfl)) fun _ hJ => ?_
            obtain ⟨md, mf⟩ := mc
            refine sqv hJ rfl (r_addI (hJ.get rfl) rfl md) fun _ dh => ?_
            refine sq (opk_store dh dd (r_store (vs := [.int .i64 3, .string (Bs []), .string (Bs ([60] : Str)), Sl.v Sl.nil, .bool false]) (dh.get rfl) (dh.get rfl) rfl ti_51 dd rfl (ones_all _ rfl)) fun ob aZ mg mh hK => ?_)
            have mi : Box aZ c 51 [.int .i64 3, .string (Bs []), .string (Bs ([60] : Str)), Sl.v Sl.nil, .bool false] := mh
            have mj : Chg [c] bM aZ := mg
            refine sqv hK rfl (r_assign (hK.get rfl)) fun _ mk => sqv mk rfl (r_assign rfl) fun _ ml => sq_end ?_
            have ca := ml.kp [(6, pB c 0), (7, .int .i64 (b + 1)), (8, .bool true)] rfl
            refine then_normal ?_
            refine wp_ret ?_
            have mm := mf aZ    mj
            exact res_all (vs := [.agg #[.int .i64 3, .string (Bs []), .string (Bs ([60] : Str)), Sl.v Sl.nil, .bool false], .int .i64 (b + 1), .bool true]) rfl ca ⟨res_of_cell ca rfl mi Tryz.underlying51 rfl ti_51, res_of_tmp ca rfl, res_of_tmp ca rfl, trivial⟩ mm
def ref10_text.vc (b : Str) (d : Int) (R : Value → World → Prop) (w : World) : Prop :=
∀ (n : World) (i : Nat), New w i n → Chg [] w n →
∃ (r : Int → World → Prop) (u : Int → World → Nat),
r d n ∧
(∀ (c : Int) (p : World), r c p →
∀ (m : World), Chg [] p m →
(((c < (b.length : Int))) → (0 : Int) ≤ c ∧ c < (b.length : Int)) ∧
((((c < (b.length : Int)) ∧ (((b.getD c.toNat 0).toNat : Int) ≠ 60))) → (0 : Int) ≤ c ∧ c < (b.length : Int)) ∧
∃ (j : Bool), ((((c < (b.length : Int)) ∧ (((b.getD c.toNat 0).toNat : Int) ≠ 60))) → ∀ w' : World, Ext m w' → Calls Tryz.prog 79 #[.int .u8 ((b.getD c.toNat 0).toNat : Int)] w' (Ret fun v w'' => Ext w' w'' ∧ v = .bool j)) ∧
((((c < (b.length : Int)) ∧ (((b.getD c.toNat 0).toNat : Int) ≠ 60))) → (0 : Int) ≤ d ∧ d < (b.length : Int)) ∧
∃ (k : Bool), ((((c < (b.length : Int)) ∧ (((b.getD c.toNat 0).toNat : Int) ≠ 60))) → ∀ w' : World, Ext m w' → Calls Tryz.prog 79 #[.int .u8 ((b.getD d.toNat 0).toNat : Int)] w' (Ret fun v w'' => Ext w' w'' ∧ v = .bool k)) ∧
((((c < (b.length : Int)) ∧ (((b.getD c.toNat 0).toNat : Int) ≠ 60)) ∧ ((j == k) = true)) →
(I64 (c + 1)) ∧
∀ (l : World), Chg [] m l →
r (c + 1) l ∧ u (c + 1) l < u c p) ∧
((((¬ (c < (b.length : Int))) ∨ (¬ (((b.getD c.toNat 0).toNat : Int) ≠ 60))) ∨ ((j == k) = false)) →
((0 : Int) ≤ d ∧ (d : Int) ≤ c ∧ c ≤ (b.length : Int)) ∧
∀ (l : World), Chg [] m l →
CallK Tryz.prog 48 #[.string (Bs ((List.drop d.toNat b).take (c.toNat - d.toNat))), .bool false] l [i] (fun v aa => ∃ (o : Str), v = .string (Bs o) ∧
∀ (q : World), Chg [i] aa q →
R (.tuple #[.agg #[.int .i64 3, .string (Bs []), .string (Bs o), Sl.v Sl.nil, .bool false], .int .i64 c, .bool true]) q)))
theorem ref10_text.ok (b : Str) (d : Int) {R : Value → World → Prop} {w : World} (ad : ref10_text.vc b d R w) : Calls Tryz.prog 49 #[.string (Bs b), .int .i64 d] w (Ret R) := by
 refine enter [.string (Bs b), .int .i64 d] Tryz.func49 rfl Tryz.ntmps49 rfl ?_
 intro a0 aB
 unfold ref10_text.vc at ad
 refine wp_seq (wp_region_lit ?_)
 refine sq (opk_new (fun B => .pointer (some ⟨B, 0, none⟩)) aB rfl (r_alloc (cs := [.int .i64 0, .string (Bs []), .string (Bs []), Sl.v Sl.nil, .bool false]) ti_51 rfl) fun a5 n i aC aD aG aH _ => ?_)
 have aI : New w i n := aD
 have aJ : Chg [] w n := aC
 refine sqv aH rfl (r_assign rfl) fun _ aK => sqv aK rfl (r_assign rfl) fun _ aL => sq_end ?_
 have af := aL.kp [(0, .string (Bs b)), (1, .int .i64 d), (4, pB i 0)] rfl
 refine then_normal (wp_seq (wp_region_lit ?_))
 refine sqv af rfl (r_move (af.get rfl)) fun _ ah => sqv ah rfl (r_assign (ah.get rfl)) fun _ aM => sq_end ?_
 have aN := aM.kp [(0, .string (Bs b)), (1, .int .i64 d), (4, pB i 0), (7, .int .i64 d)] rfl
 refine then_normal (wp_seq (wp_block ?_))
 have aO := ad n i aI  aJ
 obtain ⟨r, u, aP, aQ⟩ := aO
 refine wp_loop_st (σ := Int × World) (fun s a w => Ag 39 a [(0, .string (Bs b)), (1, .int .i64 d), (4, pB i 0), (7, .int .i64 s.1)] ∧ Box w i 51 [.int .i64 0, .string (Bs []), .string (Bs []), Sl.v Sl.nil, .bool false] ∧ w = s.2 ∧ r s.1 s.2) (fun s => u s.1 s.2) (d, n) ⟨aN.kp [(0, .string (Bs b)), (1, .int .i64 d), (4, pB i 0), (7, .int .i64 d)] rfl, aG, rfl, aP⟩ ?_
 rintro ⟨c, p⟩ bK w_ ⟨f, aR, hw_, aS⟩
 have hw_ : p = w_ := hw_.symm
 subst hw_
 have aU := aQ c _ aS
 refine wp_seq (wp_seq ?_)
 refine draw' (by kernel_rfl) fun m ai => ?_
 have aV := aR.ext ai
 have aX : Chg [] p m := ai
 have aY := aU m    aX
 obtain ⟨aZ, ht114⟩ := aY
 obtain ⟨a1, a2⟩ := ht114
 obtain ⟨j, a3, a4⟩ := a2
 obtain ⟨hS137, a6⟩ := a4
 obtain ⟨k, a7, aj⟩ := a6
 refine par (D := [[], [], [1], [0, 1, 2], [0, 1, 2, 3], [0, 1, 2, 3, 4], [0, 1, 2, 3, 4], [0, 1, 2, 3, 4, 5, 6], [0, 1, 2, 3, 4, 5, 6, 7], [0, 1, 2, 3, 4, 5, 6, 7, 8], [0, 1, 2, 3, 4, 5, 6, 7, 8, 9], [0, 1, 2, 3, 4, 5, 6, 7, 8, 9, 10], [0, 1, 2, 3, 4, 5, 6, 7, 8, 9, 10], [0, 1, 2, 3, 4, 5, 6, 7, 8, 9, 10, 11, 12], [0, 1, 2, 3, 4, 5, 6, 7, 8, 9, 10, 11, 12, 13], [0, 1, 2, 3, 4, 5, 6, 7, 8, 9, 10], [0, 1, 2, 3, 4, 5, 6, 7, 8, 9, 10], [0, 1, 2, 3, 4, 5, 6, 7, 8, 9, 10, 15, 16], [0, 1, 2, 3, 4, 5, 6, 7, 8, 9, 10, 11, 12, 13, 14, 15, 16, 17], [0, 1, 2, 3, 4, 5, 6, 7, 8, 9, 10, 11, 12, 13, 14, 15, 16, 17, 18], [0, 1, 2, 3, 4, 5, 6, 7, 8, 9, 10, 11, 12, 13, 14, 15, 16, 17, 18, 19]]) (S := [0, 1, 2, 3, 4, 5, 6, 7, 8, 9, 10, 11, 12, 13, 14, 15, 16, 17, 18, 19, 20]) (F := []) (V := VL [(0, fun v _ => v = .int .i64 c), (1, fun v _ => v = .string (Bs b)), (2, fun v _ => v = .int .i64 (b.length : Int)), (3, fun v _ => v = .bool (decide (c < (b.length : Int)))), (4, fun v _ => v = .bool (decide (c < (b.length : Int)))), (5, fun v _ => v = cV (true && ((decide (c < (b.length : Int))) == true)) (.string (Bs b))), (6, fun v _ => v = cV (true && ((decide (c < (b.length : Int))) == true)) (.int .i64 c)), (7, fun v _ => v = cV (true && ((decide (c < (b.length : Int))) == true)) (.int .u8 ((b.getD c.toNat 0).toNat : Int))), (8, fun v _ => v = cV (true && ((decide (c < (b.length : Int))) == true)) (.bool (decide (((b.getD c.toNat 0).toNat : Int) ≠ 60)))), (9, fun v _ => v = .bool ((decide (c < (b.length : Int))) && (decide (((b.getD c.toNat 0).toNat : Int) ≠ 60)))), (10, fun v _ => v = .bool ((decide (c < (b.length : Int))) && (decide (((b.getD c.toNat 0).toNat : Int) ≠ 60)))), (11, fun v _ => v = cV (true && (((decide (c < (b.length : Int))) && (decide (((b.getD c.toNat 0).toNat : Int) ≠ 60))) == true)) (.string (Bs b))), (12, fun v _ => v = cV (true && (((decide (c < (b.length : Int))) && (decide (((b.getD c.toNat 0).toNat : Int) ≠ 60))) == true)) (.int .i64 c)), (13, fun v _ => v = cV (true && (((decide (c < (b.length : Int))) && (decide (((b.getD c.toNat 0).toNat : Int) ≠ 60))) == true)) (.int .u8 ((b.getD c.toNat 0).toNat : Int))), (14, fun v _ => v = cV (true && (((decide (c < (b.length : Int))) && (decide (((b.getD c.toNat 0).toNat : Int) ≠ 60))) == true)) (.bool j)), (15, fun v _ => v = cV (true && (((decide (c < (b.length : Int))) && (decide (((b.getD c.toNat 0).toNat : Int) ≠ 60))) == true)) (.string (Bs b))), (16, fun v _ => v = cV (true && (((decide (c < (b.length : Int))) && (decide (((b.getD c.toNat 0).toNat : Int) ≠ 60))) == true)) (.int .i64 d)), (17, fun v _ => v = cV (true && (((decide (c < (b.length : Int))) && (decide (((b.getD c.toNat 0).toNat : Int) ≠ 60))) == true)) (.int .u8 ((b.getD d.toNat 0).toNat : Int))), (18, fun v _ => v = cV (true && (((decide (c < (b.length : Int))) && (decide (((b.getD c.toNat 0).toNat : Int) ≠ 60))) == true)) (.bool k)), (19, fun v _ => v = cV (true && (((decide (c < (b.length : Int))) && (decide (((b.getD c.toNat 0).toNat : Int) ≠ 60))) == true)) (.bool (j == k))), (20, fun v _ => v = .bool (((decide (c < (b.length : Int))) && (decide (((b.getD c.toNat 0).toNat : Int) ≠ 60))) && (j == k)))]) f (by kernel_rfl) ⟨fun _ _ _ _ h => h, fun _ _ _ _ h => h, fun _ _ _ _ h => h, fun _ _ _ _ h => h, fun _ _ _ _ h => h, fun _ _ _ _ h => h, fun _ _ _ _ h => h, fun _ _ _ _ h => h, fun _ _ _ _ h => h, fun _ _ _ _ h => h, fun _ _ _ _ h => h, fun _ _ _ _ h => h, fun _ _ _ _ h => h, fun _ _ _ _ h => h, fun _ _ _ _ h => h, fun _ _ _ _ h => h, fun _ _ _ _ h => h, fun _ _ _ _ h => h, fun _ _ _ _ h => h, fun _ _ _ _ h => h, fun _ _ _ _ h => h, trivial⟩ ⟨?_, ?_, ?_, ?_, ?_, ?_, ?_, ?_, ?_, ?_, ?_, ?_, ?_, ?_, ?_, ?_, ?_, ?_, ?_, ?_, ?_, trivial⟩ ?_
 ·intro a w hT
  have hAp := hT.ag f [(7, .int .i64 c)] ⟨rfl, trivial⟩ (by kernel_rfl)
  exact ovr hAp rfl (r_move (hAp.get rfl)) fun _ => Eq.refl _
 ·intro a w hT
  have hAp := hT.ag f [(0, .string (Bs b))] ⟨rfl, trivial⟩ (by kernel_rfl)
  exact ovr hAp rfl (r_move (hAp.get rfl)) fun _ => Eq.refl _
 ·intro a w hT
  have hAp := hT.ag f [] trivial (by kernel_rfl)
  have hAp := hAp.add (t := 10) (v := .string (Bs b)) (hT.vals 1 rfl 10 rfl)
  exact ovr hAp rfl (r_slen (hAp.get rfl) tU9) fun _ => Eq.refl _
 ·intro a w hT
  have hAp := hT.ag f [] trivial (by kernel_rfl)
  have hAp := hAp.add (t := 9) (v := .int .i64 c) (hT.vals 0 rfl 9 rfl)
  have hAp := hAp.add (t := 11) (v := .int .i64 (b.length : Int)) (hT.vals 2 rfl 11 rfl)
  exact ovr hAp rfl (r_lss (hAp.get rfl) (hAp.get rfl)) fun _ => Eq.refl _
 ·intro a w hT
  have hAp := hT.ag f [] trivial (by kernel_rfl)
  have hAp := hAp.add (t := 12) (v := .bool (decide (c < (b.length : Int)))) (hT.vals 3 rfl 12 rfl)
  exact ovr hAp rfl (r_move (hAp.get rfl)) fun _ => Eq.refl _
 ·intro a w hT
  have hAp := hT.ag f [(0, .string (Bs b))] ⟨rfl, trivial⟩ (by kernel_rfl)
  have hAp := hAp.add (t := 13) (v := .bool (decide (c < (b.length : Int)))) (hT.vals 4 rfl 13 rfl)
  exact opk_gval hAp rfl rfl (g := true) (e := (decide (c < (b.length : Int)))) rfl (fun hg => r_move (hAp.get rfl)) fun _ _ e => ⟨_, e, Chg.refl _ _, fun _ => Eq.refl _⟩
 ·intro a w hT
  have hAp := hT.ag f [(7, .int .i64 c)] ⟨rfl, trivial⟩ (by kernel_rfl)
  have hAp := hAp.add (t := 13) (v := .bool (decide (c < (b.length : Int)))) (hT.vals 4 rfl 13 rfl)
  exact opk_gval hAp rfl rfl (g := true) (e := (decide (c < (b.length : Int)))) rfl (fun hg => r_move (hAp.get rfl)) fun _ _ e => ⟨_, e, Chg.refl _ _, fun _ => Eq.refl _⟩
 ·intro a w hT
  have hAp := hT.ag f [] trivial (by kernel_rfl)
  have hAp := hAp.add (t := 13) (v := .bool (decide (c < (b.length : Int)))) (hT.vals 4 rfl 13 rfl)
  have hAp := hAp.add (t := 14) (v := cV (true && ((decide (c < (b.length : Int))) == true)) (.string (Bs b))) (hT.vals 5 rfl 14 rfl)
  have hAp := hAp.add (t := 15) (v := cV (true && ((decide (c < (b.length : Int))) == true)) (.int .i64 c)) (hT.vals 6 rfl 15 rfl)
  exact opk_gval hAp rfl rfl (g := true) (e := (decide (c < (b.length : Int)))) rfl (fun hg => r_sindex (cv_get (hAp.get rfl) hg) (cv_get (hAp.get rfl) hg) tU9 (aZ (of_decide_eq_true (g_t hg)))) fun _ _ e => ⟨_, e, Chg.refl _ _, fun _ => Eq.refl _⟩
 ·intro a w hT
  have hAp := hT.ag f [] trivial (by kernel_rfl)
  have hAp := hAp.add (t := 13) (v := .bool (decide (c < (b.length : Int)))) (hT.vals 4 rfl 13 rfl)
  have hAp := hAp.add (t := 16) (v := cV (true && ((decide (c < (b.length : Int))) == true)) (.int .u8 ((b.getD c.toNat 0).toNat : Int))) (hT.vals 7 rfl 16 rfl)
  exact opk_gval hAp rfl rfl (g := true) (e := (decide (c < (b.length : Int)))) rfl (fun hg => r_neq (cv_get (hAp.get rfl) hg) rfl) fun _ _ e => ⟨_, e, Chg.refl _ _, fun _ => Eq.refl _⟩
 ·intro a w hT
  have hAp := hT.ag f [] trivial (by kernel_rfl)
  have hAp := hAp.add (t := 13) (v := .bool (decide (c < (b.length : Int)))) (hT.vals 4 rfl 13 rfl)
  have hAp := hAp.add (t := 17) (v := cV (true && ((decide (c < (b.length : Int))) == true)) (.bool (decide (((b.getD c.toNat 0).toNat : Int) ≠ 60)))) (hT.vals 8 rfl 17 rfl)
  exact ovr hAp rfl (r_pick_and (g := (true && ((decide (c < (b.length : Int))) == true))) (hAp.get rfl) (hAp.get rfl) (fun he => g_mkt rfl he)) fun _ => Eq.refl _
 ·intro a w hT
  have hAp := hT.ag f [] trivial (by kernel_rfl)
  have hAp := hAp.add (t := 18) (v := .bool ((decide (c < (b.length : Int))) && (decide (((b.getD c.toNat 0).toNat : Int) ≠ 60)))) (hT.vals 9 rfl 18 rfl)
  exact ovr hAp rfl (r_move (hAp.get rfl)) fun _ => Eq.refl _
 ·intro a w hT
  have hAp := hT.ag f [(0, .string (Bs b))] ⟨rfl, trivial⟩ (by kernel_rfl)
  have hAp := hAp.add (t := 19) (v := .bool ((decide (c < (b.length : Int))) && (decide (((b.getD c.toNat 0).toNat : Int) ≠ 60)))) (hT.vals 10 rfl 19 rfl)
  exact opk_gval hAp rfl rfl (g := true) (e := ((decide (c < (b.length : Int))) && (decide (((b.getD c.toNat 0).toNat : Int) ≠ 60)))) rfl (fun hg => r_move (hAp.get rfl)) fun _ _ e => ⟨_, e, Chg.refl _ _, fun _ => Eq.refl _⟩
 ·intro a w hT
  have hAp := hT.ag f [(7, .int .i64 c)] ⟨rfl, trivial⟩ (by kernel_rfl)
  have hAp := hAp.add (t := 19) (v := .bool ((decide (c < (b.length : Int))) && (decide (((b.getD c.toNat 0).toNat : Int) ≠ 60)))) (hT.vals 10 rfl 19 rfl)
  exact opk_gval hAp rfl rfl (g := true) (e := ((decide (c < (b.length : Int))) && (decide (((b.getD c.toNat 0).toNat : Int) ≠ 60)))) rfl (fun hg => r_move (hAp.get rfl)) fun _ _ e => ⟨_, e, Chg.refl _ _, fun _ => Eq.refl _⟩
 ·intro a w hT
  have hAp := hT.ag f [] trivial (by kernel_rfl)
  have hAp := hAp.add (t := 19) (v := .bool ((decide (c < (b.length : Int))) && (decide (((b.getD c.toNat 0).toNat : Int) ≠ 60)))) (hT.vals 10 rfl 19 rfl)
  have hAp := hAp.add (t := 20) (v := cV (true && (((decide (c < (b.length : Int))) && (decide (((b.getD c.toNat 0).toNat : Int) ≠ 60))) == true)) (.string (Bs b))) (hT.vals 11 rfl 20 rfl)
  have hAp := hAp.add (t := 21) (v := cV (true && (((decide (c < (b.length : Int))) && (decide (((b.getD c.toNat 0).toNat : Int) ≠ 60))) == true)) (.int .i64 c)) (hT.vals 12 rfl 21 rfl)
  exact opk_gval hAp rfl rfl (g := true) (e := ((decide (c < (b.length : Int))) && (decide (((b.getD c.toNat 0).toNat : Int) ≠ 60)))) rfl (fun hg => r_sindex (cv_get (hAp.get rfl) hg) (cv_get (hAp.get rfl) hg) tU9 (a1 ⟨(of_decide_eq_true (b_and_t (g_t hg)).1), (of_decide_eq_true (b_and_t (g_t hg)).2)⟩)) fun _ _ e => ⟨_, e, Chg.refl _ _, fun _ => Eq.refl _⟩
 ·intro a w hT
  have hAp := hT.ag f [] trivial (by kernel_rfl)
  have hAp := hAp.add (t := 19) (v := .bool ((decide (c < (b.length : Int))) && (decide (((b.getD c.toNat 0).toNat : Int) ≠ 60)))) (hT.vals 10 rfl 19 rfl)
  have hAp := hAp.add (t := 22) (v := cV (true && (((decide (c < (b.length : Int))) && (decide (((b.getD c.toNat 0).toNat : Int) ≠ 60))) == true)) (.int .u8 ((b.getD c.toNat 0).toNat : Int))) (hT.vals 13 rfl 22 rfl)
  exact opk_gcall hAp rfl rfl (g := true) (e := ((decide (c < (b.length : Int))) && (decide (((b.getD c.toNat 0).toNat : Int) ≠ 60)))) rfl (fun hg => r_call (args := #[.int .u8 ((b.getD c.toNat 0).toNat : Int)]) Tryz.func79 (by decide) rfl (map_arr (ml_cons (cv_get (hAp.get rfl) hg) ml_nil)) rfl) (fun hg => a3 ⟨(of_decide_eq_true (b_and_t (g_t hg)).1), (of_decide_eq_true (b_and_t (g_t hg)).2)⟩ w hT.chg) fun _ _ _ e hE => ⟨_, e, hE, fun _ => Eq.refl _⟩
 ·intro a w hT
  have hAp := hT.ag f [(0, .string (Bs b))] ⟨rfl, trivial⟩ (by kernel_rfl)
  have hAp := hAp.add (t := 19) (v := .bool ((decide (c < (b.length : Int))) && (decide (((b.getD c.toNat 0).toNat : Int) ≠ 60)))) (hT.vals 10 rfl 19 rfl)
  exact opk_gval hAp rfl rfl (g := true) (e := ((decide (c < (b.length : Int))) && (decide (((b.getD c.toNat 0).toNat : Int) ≠ 60)))) rfl (fun hg => r_move (hAp.get rfl)) fun _ _ e => ⟨_, e, Chg.refl _ _, fun _ => Eq.refl _⟩
 ·intro a w hT
  have hAp := hT.ag f [(1, .int .i64 d)] ⟨rfl, trivial⟩ (by kernel_rfl)
  have hAp := hAp.add (t := 19) (v := .bool ((decide (c < (b.length : Int))) && (decide (((b.getD c.toNat 0).toNat : Int) ≠ 60)))) (hT.vals 10 rfl 19 rfl)
  exact opk_gval hAp rfl rfl (g := true) (e := ((decide (c < (b.length : Int))) && (decide (((b.getD c.toNat 0).toNat : Int) ≠ 60)))) rfl (fun hg => r_move (hAp.get rfl)) fun _ _ e => ⟨_, e, Chg.refl _ _, fun _ => Eq.refl _⟩
 ·intro a w hT
  have hAp := hT.ag f [] trivial (by kernel_rfl)
  have hAp := hAp.add (t := 19) (v := .bool ((decide (c < (b.length : Int))) && (decide (((b.getD c.toNat 0).toNat : Int) ≠ 60)))) (hT.vals 10 rfl 19 rfl)
  have hAp := hAp.add (t := 24) (v := cV (true && (((decide (c < (b.length : Int))) && (decide (((b.getD c.toNat 0).toNat : Int) ≠ 60))) == true)) (.string (Bs b))) (hT.vals 15 rfl 24 rfl)
  have hAp := hAp.add (t := 25) (v := cV (true && (((decide (c < (b.length : Int))) && (decide (((b.getD c.toNat 0).toNat : Int) ≠ 60))) == true)) (.int .i64 d)) (hT.vals 16 rfl 25 rfl)
  exact opk_gval hAp rfl rfl (g := true) (e := ((decide (c < (b.length : Int))) && (decide (((b.getD c.toNat 0).toNat : Int) ≠ 60)))) rfl (fun hg => r_sindex (cv_get (hAp.get rfl) hg) (cv_get (hAp.get rfl) hg) tU9 (hS137 ⟨(of_decide_eq_true (b_and_t (g_t hg)).1), (of_decide_eq_true (b_and_t (g_t hg)).2)⟩)) fun _ _ e => ⟨_, e, Chg.refl _ _, fun _ => Eq.refl _⟩
 ·intro a w hT
  have hAp := hT.ag f [] trivial (by kernel_rfl)
  have hAp := hAp.add (t := 19) (v := .bool ((decide (c < (b.length : Int))) && (decide (((b.getD c.toNat 0).toNat : Int) ≠ 60)))) (hT.vals 10 rfl 19 rfl)
  have hAp := hAp.add (t := 26) (v := cV (true && (((decide (c < (b.length : Int))) && (decide (((b.getD c.toNat 0).toNat : Int) ≠ 60))) == true)) (.int .u8 ((b.getD d.toNat 0).toNat : Int))) (hT.vals 17 rfl 26 rfl)
  exact opk_gcall hAp rfl rfl (g := true) (e := ((decide (c < (b.length : Int))) && (decide (((b.getD c.toNat 0).toNat : Int) ≠ 60)))) rfl (fun hg => r_call (args := #[.int .u8 ((b.getD d.toNat 0).toNat : Int)]) Tryz.func79 (by decide) rfl (map_arr (ml_cons (cv_get (hAp.get rfl) hg) ml_nil)) rfl) (fun hg => a7 ⟨(of_decide_eq_true (b_and_t (g_t hg)).1), (of_decide_eq_true (b_and_t (g_t hg)).2)⟩ w hT.chg) fun _ _ _ e hE => ⟨_, e, hE, fun _ => Eq.refl _⟩
 ·intro a w hT
  have hAp := hT.ag f [] trivial (by kernel_rfl)
  have hAp := hAp.add (t := 19) (v := .bool ((decide (c < (b.length : Int))) && (decide (((b.getD c.toNat 0).toNat : Int) ≠ 60)))) (hT.vals 10 rfl 19 rfl)
  have hAp := hAp.add (t := 23) (v := cV (true && (((decide (c < (b.length : Int))) && (decide (((b.getD c.toNat 0).toNat : Int) ≠ 60))) == true)) (.bool j)) (hT.vals 14 rfl 23 rfl)
  have hAp := hAp.add (t := 27) (v := cV (true && (((decide (c < (b.length : Int))) && (decide (((b.getD c.toNat 0).toNat : Int) ≠ 60))) == true)) (.bool k)) (hT.vals 18 rfl 27 rfl)
  exact opk_gval hAp rfl rfl (g := true) (e := ((decide (c < (b.length : Int))) && (decide (((b.getD c.toNat 0).toNat : Int) ≠ 60)))) rfl (fun hg => r_beql (cv_get (hAp.get rfl) hg) (cv_get (hAp.get rfl) hg) tU4) fun _ _ e => ⟨_, e, Chg.refl _ _, fun _ => Eq.refl _⟩
 ·intro a w hT
  have hAp := hT.ag f [] trivial (by kernel_rfl)
  have hAp := hAp.add (t := 19) (v := .bool ((decide (c < (b.length : Int))) && (decide (((b.getD c.toNat 0).toNat : Int) ≠ 60)))) (hT.vals 10 rfl 19 rfl)
  have hAp := hAp.add (t := 28) (v := cV (true && (((decide (c < (b.length : Int))) && (decide (((b.getD c.toNat 0).toNat : Int) ≠ 60))) == true)) (.bool (j == k))) (hT.vals 19 rfl 28 rfl)
  exact ovr hAp rfl (r_pick_and (g := (true && (((decide (c < (b.length : Int))) && (decide (((b.getD c.toNat 0).toNat : Int) ≠ 60))) == true))) (hAp.get rfl) (hAp.get rfl) (fun he => g_mkt rfl he)) fun _ => Eq.refl _
 ·intro a8 l ak a9 ba
  have bb := a9 [(0, .string (Bs b)), (1, .int .i64 d), (4, pB i 0), (7, .int .i64 c)] ⟨rfl, rfl, rfl, rfl, trivial⟩ (by kernel_rfl)
  have bd : a8.tmps.getD 29 undef = .bool (((decide (c < (b.length : Int))) && (decide (((b.getD c.toNat 0).toNat : Int) ≠ 60))) && (j == k)) := ba 20 rfl 29 rfl
  have bf := bb.add bd
  have al := aV.ext ak
  have am : Chg [] m l := ak
  refine PR_end (by kernel_rfl) ?_
  have x := bf.kp [(0, .string (Bs b)), (1, .int .i64 d), (4, pB i 0), (7, .int .i64 c), (29, .bool (((decide (c < (b.length : Int))) && (decide (((b.getD c.toNat 0).toNat : Int) ≠ 60))) && (j == k)))] rfl
  refine then_normal ?_
  refine wp_cond_split (x.get rfl) (fun hc => ?_) (fun hc => ?_)
  ·have bg := aj.1 ⟨⟨(of_decide_eq_true (b_and_t (b_and_t hc).1).1), (of_decide_eq_true (b_and_t (b_and_t hc).1).2)⟩, (b_and_t hc).2⟩
   clear hc
   refine wp_skip ?_
   refine then_normal (wp_block (wp_region_lit ?_))
   refine sqv x rfl (r_move (x.get rfl)) fun _ an => ?_
   obtain ⟨bi, bj⟩ := bg
   refine sqv an rfl (r_addI (an.get rfl) rfl bi) fun _ ao => sqv ao rfl (r_assign (ao.get rfl)) fun _ bk => sq_end ?_
   have bo := bk.kp [(0, .string (Bs b)), (1, .int .i64 d), (4, pB i 0), (7, .int .i64 (c + 1))] rfl
   refine block_normal ?_
   have ap := bj l    am
   have bp := bo.kp [(0, .string (Bs b)), (1, .int .i64 d), (4, pB i 0), (7, .int .i64 (c + 1))] rfl
   exact then_normal ⟨(c + 1, l), ⟨bp, al, rfl, ap.1⟩, ap.2⟩
  ·have bq := aj.2 ((b_and_f hc).imp (fun h => ((b_and_f h).imp (fun h => (of_decide_eq_false h)) (fun h => (of_decide_eq_false h)))) (fun h => h))
   clear hc
   refine wp_exit ?_
   refine then_exit ?_
   refine then_exit ?_
   refine block_hit ?_
   have aq := x.kp [(0, .string (Bs b)), (1, .int .i64 d), (4, pB i 0), (7, .int .i64 c)] rfl
   refine then_normal (wp_seq (wp_region_lit ?_))
   refine sqv aq rfl (r_move (aq.get rfl)) fun _ ar => sqv ar rfl (r_move (ar.get rfl)) fun _ au => sqv au rfl (r_move (au.get rfl)) fun _ y => ?_
   obtain ⟨bs, bt⟩ := bq
   refine sqv y rfl (r_sslice2 (y.get rfl) (y.get rfl) (y.get rfl) tU9 bs) fun _ av => ?_
   have bu := bt l    am
   refine sq (opk_call av rfl (r_call (args := #[.string (Bs ((List.drop d.toNat b).take (c.toNat - d.toNat))), .bool false]) Tryz.func48 (by decide) rfl (map_arr (ml_cons (av.get rfl) (ml_cons rfl ml_nil))) rfl) bu fun bL bM aa ax _ bv bN bx => ?_)
   obtain ⟨o, rfl, bz⟩ := bx
   have ay := al.kept bv (.head _)
   refine sqv ax rfl (r_build (vs := #[(0, .int .i64 3), (2, .string (Bs o))]) (cells := #[.int .i64 3, .string (Bs []), .string (Bs o), Sl.v Sl.nil, .bool false]) (map_arr2 (ml2_cons rfl (ml2_cons (ax.get rfl) (ml2_nil)))) ti_51 Tryz.underlying51 pl_51 (by kernel_rfl)) fun _ az => sqv az rfl (r_move (az.get rfl)) fun _ ab => ?_
   refine sq (opk_store ab ay (r_store (vs := [.int .i64 3, .string (Bs []), .string (Bs o), Sl.v Sl.nil, .bool false]) (ab.get rfl) (ab.get rfl) rfl ti_51 ay rfl (ones_all _ rfl)) fun bO q bA bB aA => ?_)
   have bC : Box q i 51 [.int .i64 3, .string (Bs []), .string (Bs o), Sl.v Sl.nil, .bool false] := bB
   have bD : Chg [i] aa q := bA
   refine sqv aA rfl (r_assign (aA.get rfl)) fun _ bF => sqv bF rfl (r_assign rfl) fun _ bG => sq_end ?_
   have z := bG.kp [(4, pB i 0), (5, .int .i64 c), (6, .bool true)] rfl
   refine then_normal ?_
   refine wp_ret ?_
   have bH := bz q    bD
   exact res_all (vs := [.agg #[.int .i64 3, .string (Bs []), .string (Bs o), Sl.v Sl.nil, .bool false], .int .i64 c, .bool true]) rfl z ⟨res_of_cell z rfl bC Tryz.underlying51 rfl ti_51, res_of_tmp z rfl, res_of_tmp z rfl, trivial⟩ bH
def ref10_letter.vc (b : Str) (a : Int) (R : Value → World → Prop) (w : World) : Prop :=
(((a < (b.length : Int))) → (0 : Int) ≤ a ∧ a < (b.length : Int)) ∧
∃ (c : Bool), (((a < (b.length : Int))) → Calls Tryz.prog 81 #[.int .u8 ((b.getD a.toNat 0).toNat : Int)] w (Ret fun v w' => Ext w w' ∧ v = .bool c)) ∧
(∀ d : World, Ext w d →
R (.bool ((decide (a < (b.length : Int))) && c)) d)
theorem ref10_letter.ok (b : Str) (a : Int) {R : Value → World → Prop} {w : World} (j : ref10_letter.vc b a R w) : Calls Tryz.prog 50 #[.string (Bs b), .int .i64 a] w (Ret R) := by
 refine enter [.string (Bs b), .int .i64 a] Tryz.func50 rfl Tryz.ntmps50 rfl ?_
 intro a0 u
 unfold ref10_letter.vc at j
 refine wp_seq (wp_region_lit ?_)
 refine sqv u rfl (r_assign rfl) fun _ x => sq_end ?_
 have k := x.kp [(0, .string (Bs b)), (1, .int .i64 a)] rfl
 refine then_normal (wp_seq (wp_region_lit ?_))
 refine sqv k rfl (r_move (k.get rfl)) fun _ l => sqv l rfl (r_move (l.get rfl)) fun _ m => sqv m rfl (r_slen (m.get rfl) tU9) fun _ f => sqv f rfl (r_lss (f.get rfl) (f.get rfl)) fun _ n => sqv n rfl (r_move (n.get rfl)) fun _ o => ?_
 refine sq (opk_gval o rfl rfl (g := true) (e := (decide (a < (b.length : Int)))) rfl (fun hg => r_move (o.get rfl)) fun ah p _ => ?_)
 refine sq (opk_gval p rfl rfl (g := true) (e := (decide (a < (b.length : Int)))) rfl (fun hg => r_move (p.get rfl)) fun ai h _ => ?_)
 obtain ⟨y, z⟩ := j
 refine sq (opk_gval h rfl rfl (g := true) (e := (decide (a < (b.length : Int)))) rfl (fun hg => r_sindex (cv_get (h.get rfl) hg) (cv_get (h.get rfl) hg) tU9 (y (of_decide_eq_true (g_t hg)))) fun aj q _ => ?_)
 obtain ⟨c, aa, ab⟩ := z
 refine sq (opk_gcall q rfl rfl (g := true) (e := (decide (a < (b.length : Int)))) rfl (fun hg => r_call (args := #[.int .u8 ((b.getD a.toNat 0).toNat : Int)]) Tryz.func81 (by decide) rfl (map_arr (ml_cons (cv_get (q.get rfl) hg) ml_nil)) rfl) (fun hg => aa (of_decide_eq_true (g_t hg))) fun ak d i _ r => ?_)
 have al : Chg [] w d := r
 have ad := ab d r
 refine sqv i rfl (r_pick_and (g := (true && ((decide (a < (b.length : Int))) == true))) (i.get rfl) (i.get rfl) (fun he => g_mkt rfl he)) fun _ s => sqv s rfl (r_assign (s.get rfl)) fun _ af => sq_end ?_
 have t := af.kp [(4, .bool ((decide (a < (b.length : Int))) && c))] rfl
 refine then_normal ?_
 refine wp_ret ?_
 exact res_all (vs := [.bool ((decide (a < (b.length : Int))) && c)]) rfl t ⟨res_of_tmp t rfl, trivial⟩ ad
def ref10_tag.vc (b : Str) (o : Int) (i : Int) (R : Value → World → Prop) (w : World) : Prop :=
∀ (w5 : World) (d : Nat), New w d w5 → Chg [] w w5 →
CallK Tryz.prog 82 #[.string (Bs b), .int .i64 o, .string (Bs ([47, 62] : Str))] w5 [d] (fun v bU => ∃ (r : Int), v = .int .i64 r ∧
((0 : Int) ≤ o ∧ (o : Int) ≤ r ∧ r ≤ (b.length : Int)) ∧
CallK Tryz.prog 83 #[.string (Bs ((List.drop o.toNat b).take (r.toNat - o.toNat)))] bU [d] (fun v ax => ∃ (l : Str), v = .string (Bs l) ∧
∀ (ag : World) (f : Nat), New ax f ag → Chg [] ax ag →
∃ (aj : Int → Sl → World → Prop) (ak : Int → Sl → World → Nat),
aj r Sl.nil ag ∧
(∀ (z : Int) (m : Sl) (ah : World), aj z m ah →
∃ (ay : Int → World → Prop) (aJ : Int → World → Nat),
ay z ah ∧
(∀ (c : Int) (aa : World), ay c aa →
(((c < (b.length : Int))) → (0 : Int) ≤ c ∧ c < (b.length : Int)) ∧
∃ (t : Bool), (((c < (b.length : Int))) → Calls Tryz.prog 79 #[.int .u8 ((b.getD c.toNat 0).toNat : Int)] aa (Ret fun v w' => Ext aa w' ∧ v = .bool t)) ∧
(∀ p : World, Ext aa p →
(((c < (b.length : Int)) ∧ (t = false)) → (0 : Int) ≤ c ∧ c < (b.length : Int)) ∧
(((c < (b.length : Int)) ∧ ((t = true) ∨ (((b.getD c.toNat 0).toNat : Int) = 47))) →
(I64 (c + 1)) ∧
ay (c + 1) p ∧ aJ (c + 1) p < aJ c aa) ∧
(((¬ (c < (b.length : Int))) ∨ ((t = false) ∧ (¬ (((b.getD c.toNat 0).toNat : Int) = 47)))) →
(((b.length : Int) ≤ c) →
∀ (al : World), Chg [d] p al →
R (.tuple #[.agg #[.int .i64 0, .string (Bs []), .string (Bs []), Sl.v Sl.nil, .bool false], .int .i64 (b.length : Int), .bool false]) al) ∧
((¬ ((b.length : Int) ≤ c)) →
((0 : Int) ≤ c ∧ c < (b.length : Int)) ∧
((((b.getD c.toNat 0).toNat : Int) = 62) →
∃ az : Sl → World → Prop,
(((i = 2) →
∀ (am : World), Chg [f] p am →
az Sl.nil am) ∧
((¬ (i = 2)) →
az m p)) ∧
(∀ (u : Sl) (aA : World), az u aA →
(I64 (c + 1)) ∧
∀ (an : World), Chg [d] aA an →
R (.tuple #[.agg #[.int .i64 i, .string (Bs l), .string (Bs []), Sl.v u, .bool false], .int .i64 (c + 1), .bool true]) an)) ∧
((¬ (((b.getD c.toNat 0).toNat : Int) = 62)) →
(I64 (c + 1)) ∧
CallK Tryz.prog 82 #[.string (Bs b), .int .i64 (c + 1), .string (Bs ([47, 62, 61] : Str))] p [d, f] (fun v bX => ∃ (x : Int), v = .int .i64 x ∧
((0 : Int) ≤ c ∧ (c : Int) ≤ x ∧ x ≤ (b.length : Int)) ∧
CallK Tryz.prog 83 #[.string (Bs ((List.drop c.toNat b).take (x.toNat - c.toNat)))] bX [d, f] (fun v aB => ∃ (q : Str), v = .string (Bs q) ∧
∀ (ao : World) (j : Nat), New aB j ao → Chg [] aB ao →
CallK Tryz.prog 84 #[.string (Bs b), .int .i64 x] ao [d, f, j] (fun v a2 => ∃ (k : Int), v = .int .i64 k ∧
(((k < (b.length : Int))) → (0 : Int) ≤ k ∧ k < (b.length : Int)) ∧
∃ aC : Int → Str → World → Prop,
((((k < (b.length : Int)) ∧ (((b.getD k.toNat 0).toNat : Int) = 61)) →
(I64 (k + 1)) ∧
CallK Tryz.prog 84 #[.string (Bs b), .int .i64 (k + 1)] a2 [d, f, j] (fun v bY => ∃ (aK : Int), v = .int .i64 aK ∧
CallK Tryz.prog 85 #[.string (Bs b), .int .i64 aK] bY [d, f, j] (fun v aL => ∃ (ap : Str) (y : Int), v = .tuple #[.string (Bs ap), .int .i64 y] ∧
(((b.length : Int) < y) →
∀ (aD : World), Chg [d, j] aL aD →
R (.tuple #[.agg #[.int .i64 0, .string (Bs []), .string (Bs []), Sl.v Sl.nil, .bool false], .int .i64 (b.length : Int), .bool false]) aD) ∧
((¬ ((b.length : Int) < y)) →
∀ (aq : World), Chg [j] aL aq →
aC y ap aq)))) ∧
(((¬ (k < (b.length : Int))) ∨ (¬ (((b.getD k.toNat 0).toNat : Int) = 61))) →
aC k ([] : Str) a2)) ∧
(∀ (n : Int) (ab : Str) (aM : World), aC n ab aM →
CallK Tryz.prog 86 #[Sl.v m, .string (Bs q)] aM [d, f, j] (fun v aG => ∃ (aH : Bool), v = .bool aH ∧
((aH = false) →
CallK Tryz.prog 87 #[Sl.v m, .string (Bs q), .string (Bs ab)] aG [d, f, j] (fun v a3 => ∃ (ai : Sl), v = Sl.v ai ∧
∀ (ad : World), Chg [f] a3 ad →
aj n ai ad ∧ ak n ai ad < ak z m ah)) ∧
((aH = true) →
aj n m aG ∧ ak n m aG < ak z m ah))))))))))))))
theorem ref10_tag.ok (b : Str) (o : Int) (i : Int) {R : Value → World → Prop} {w : World} (bZ : ref10_tag.vc b o i R w) : Calls Tryz.prog 51 #[.string (Bs b), .int .i64 o, .int .i64 i] w (Ret R) := by
 refine enter [.string (Bs b), .int .i64 o, .int .i64 i] Tryz.func51 rfl Tryz.ntmps51 rfl ?_
 intro a0 fa
 unfold ref10_tag.vc at bZ
 refine wp_seq (wp_region_lit ?_)
 refine sq (opk_new (fun B => .pointer (some ⟨B, 0, none⟩)) fa rfl (r_alloc (cs := [.int .i64 0, .string (Bs []), .string (Bs []), Sl.v Sl.nil, .bool false]) ti_51 rfl) fun a6 w5 d fb fc fd ff _ => ?_)
 have fg : New w d w5 := fc
 have fh : Chg [] w w5 := fb
 refine sqv ff rfl (r_assign rfl) fun _ fi => sqv fi rfl (r_assign rfl) fun _ fj => sq_end ?_
 have b0 := fj.kp [(0, .string (Bs b)), (1, .int .i64 o), (2, .int .i64 i), (6, pB d 0)] rfl
 refine then_normal (wp_seq (wp_region_lit ?_))
 refine sqv b0 rfl (r_move (b0.get rfl)) fun _ b1 => sqv b1 rfl (r_move (b1.get rfl)) fun _ a4 => ?_
 have fk := bZ w5 d fg  fh
 refine sq (opk_call a4 rfl (r_call (args := #[.string (Bs b), .int .i64 o, .string (Bs ([47, 62] : Str))]) Tryz.func82 (by decide) rfl (map_arr (ml_cons (a4.get rfl) (ml_cons (a4.get rfl) (ml_cons rfl ml_nil)))) rfl) fk fun iR iS bU b2 _ fl iT fm => ?_)
 obtain ⟨r, rfl, fn⟩ := fm
 have fo := fd.kept fl (.head _)
 refine sqv b2 rfl (r_assign (b2.get rfl)) fun _ fp => sq_end ?_
 have b3 := fp.kp [(0, .string (Bs b)), (1, .int .i64 o), (2, .int .i64 i), (6, pB d 0), (9, .int .i64 r)] rfl
 refine then_normal (wp_seq (wp_region_lit ?_))
 refine sqv b3 rfl (r_move (b3.get rfl)) fun _ b4 => sqv b4 rfl (r_move (b4.get rfl)) fun _ b5 => sqv b5 rfl (r_move (b5.get rfl)) fun _ b6 => sqv b6 rfl (r_move (b6.get rfl)) fun _ aN => ?_
 obtain ⟨fq, fr⟩ := fn
 refine sqv aN rfl (r_sslice2 (aN.get rfl) (aN.get rfl) (aN.get rfl) tU9 fq) fun _ b7 => ?_
 refine sq (opk_call b7 rfl (r_call (args := #[.string (Bs ((List.drop o.toNat b).take (r.toNat - o.toNat)))]) Tryz.func83 (by decide) rfl (map_arr (ml_cons (b7.get rfl) ml_nil)) rfl) fr fun iU iX ax a5 _ fs iY ft => ?_)
 obtain ⟨l, rfl, fu⟩ := ft
 have b8 := fo.kept fs (.head _)
 refine sqv a5 rfl (r_build (vs := #[(0, .int .i64 i), (1, .string (Bs l))]) (cells := #[.int .i64 i, .string (Bs l), .string (Bs []), Sl.v Sl.nil, .bool false]) (map_arr2 (ml2_cons (a5.get rfl) (ml2_cons (a5.get rfl) (ml2_nil)))) ti_51 Tryz.underlying51 pl_51 (by kernel_rfl)) fun _ fv => ?_
 refine sq (opk_new (fun B => .pointer (some ⟨B, 0, none⟩)) fv rfl (r_alloc (cs := [.int .i64 0, .string (Bs []), .string (Bs []), Sl.v Sl.nil, .bool false]) ti_51 rfl) fun iZ b9 f ca cb cc hA48 _ => ?_)
 have ar : d ≠ f := Nat.ne_of_lt (Nat.lt_of_lt_of_le b8.lt cb.ge)
 have cd : New ax f b9 := cb
 have fx := b8.ext ca
 have fy : Chg [] ax b9 := ca
 refine sq (opk_store hA48 cc (r_store (vs := [.int .i64 i, .string (Bs l), .string (Bs []), Sl.v Sl.nil, .bool false]) (hA48.get rfl) (hA48.get rfl) rfl ti_51 cc rfl (ones_all _ rfl)) fun i0 ag a7 fz fA => ?_)
 have fB : Box ag f 51 [.int .i64 i, .string (Bs l), .string (Bs []), Sl.v Sl.nil, .bool false] := fz
 have fC := fx.keep a7 (by simpa using ar)
 have fD := fy.storeNew cd a7
 have fF := cd.up a7.size
 refine sq_end ?_
 have fG := fA.kp [(0, .string (Bs b)), (2, .int .i64 i), (6, pB d 0), (9, .int .i64 r), (10, pB f 0)] rfl
 refine then_normal (wp_block ?_)
 have fH := fu ag f fF  fD
 obtain ⟨aj, ak, fJ, fK⟩ := fH
 refine wp_loop_st (σ := Int × Sl × World) (fun s a w => Ag 112 a [(0, .string (Bs b)), (2, .int .i64 i), (6, pB d 0), (9, .int .i64 s.1), (10, pB f 0)] ∧ Box w d 51 [.int .i64 0, .string (Bs []), .string (Bs []), Sl.v Sl.nil, .bool false] ∧ Box w f 51 [.int .i64 i, .string (Bs l), .string (Bs []), Sl.v s.2.1, .bool false] ∧ w = s.2.2 ∧ aj s.1 s.2.1 s.2.2) (fun s => ak s.1 s.2.1 s.2.2) (r, Sl.nil, ag) ⟨fG.kp [(0, .string (Bs b)), (2, .int .i64 i), (6, pB d 0), (9, .int .i64 r), (10, pB f 0)] rfl, fC, fB, rfl, fJ⟩ ?_
 rintro ⟨z, m, ah⟩ i1 w_ ⟨fL, fM, fN, hw_, fO⟩
 have hw_ : ah = w_ := hw_.symm
 subst hw_
 have fP := fK z m _ fO
 refine wp_block (wp_seq (wp_block ?_))
 obtain ⟨ay, aJ, fQ, fR⟩ := fP
 refine wp_loop_st (σ := Int × World) (fun s a w => Ag 112 a [(0, .string (Bs b)), (2, .int .i64 i), (6, pB d 0), (9, .int .i64 s.1), (10, pB f 0)] ∧ Box w d 51 [.int .i64 0, .string (Bs []), .string (Bs []), Sl.v Sl.nil, .bool false] ∧ Box w f 51 [.int .i64 i, .string (Bs l), .string (Bs []), Sl.v m, .bool false] ∧ w = s.2 ∧ ay s.1 s.2) (fun s => aJ s.1 s.2) (z, ah) ⟨fL.kp [(0, .string (Bs b)), (2, .int .i64 i), (6, pB d 0), (9, .int .i64 z), (10, pB f 0)] rfl, fM, fN, rfl, fQ⟩ ?_
 rintro ⟨c, aa⟩ i2 w_ ⟨cf, fS, fT, hw_, fU⟩
 have hw_ : aa = w_ := hw_.symm
 subst hw_
 have fV := fR c _ fU
 refine wp_seq (wp_seq (wp_region_lit ?_))
 refine sqv cf rfl (r_move (cf.get rfl)) fun _ cg => sqv cg rfl (r_move (cg.get rfl)) fun _ ch => sqv ch rfl (r_slen (ch.get rfl) tU9) fun _ a8 => sqv a8 rfl (r_lss (a8.get rfl) (a8.get rfl)) fun _ ci => sqv ci rfl (r_move (ci.get rfl)) fun _ cj => ?_
 refine sq (opk_gval cj rfl rfl (g := true) (e := (decide (c < (b.length : Int)))) rfl (fun hg => r_move (cj.get rfl)) fun i3 ck _ => ?_)
 refine sq (opk_gval ck rfl rfl (g := true) (e := (decide (c < (b.length : Int)))) rfl (fun hg => r_move (ck.get rfl)) fun i4 a9 _ => ?_)
 obtain ⟨fX, fY⟩ := fV
 refine sq (opk_gval a9 rfl rfl (g := true) (e := (decide (c < (b.length : Int)))) rfl (fun hg => r_sindex (cv_get (a9.get rfl) hg) (cv_get (a9.get rfl) hg) tU9 (fX (of_decide_eq_true (g_t hg)))) fun i5 cl _ => ?_)
 obtain ⟨t, fZ, f0⟩ := fY
 refine sq (opk_gcall cl rfl rfl (g := true) (e := (decide (c < (b.length : Int)))) rfl (fun hg => r_call (args := #[.int .u8 ((b.getD c.toNat 0).toNat : Int)]) Tryz.func79 (by decide) rfl (map_arr (ml_cons (cv_get (cl.get rfl) hg) ml_nil)) rfl) (fun hg => fZ (of_decide_eq_true (g_t hg))) fun i6 p cm _ aO => ?_)
 have au := fS.ext aO
 have av := fT.ext aO
 have i7 : Chg [] aa p := aO
 have f1 := f0 p aO
 refine sq (opk_gval cm rfl rfl (g := true) (e := (decide (c < (b.length : Int)))) rfl (fun hg => r_move (cv_get (cm.get rfl) hg)) fun i8 cn _ => ?_)
 refine sq (opk_gval cn rfl rfl (g := (true && ((decide (c < (b.length : Int))) == true))) (e := t) rfl (fun hg => r_move (cn.get rfl)) fun i9 co _ => ?_)
 refine sq (opk_gval co rfl rfl (g := (true && ((decide (c < (b.length : Int))) == true))) (e := t) rfl (fun hg => r_move (co.get rfl)) fun ja ba _ => ?_)
 obtain ⟨f2, cp⟩ := f1
 refine sq (opk_gval ba rfl rfl (g := (true && ((decide (c < (b.length : Int))) == true))) (e := t) rfl (fun hg => r_sindex (cv_get (ba.get rfl) hg) (cv_get (ba.get rfl) hg) tU9 (f2 ⟨(of_decide_eq_true (g_t (g_up hg))), (g_f hg)⟩)) fun jb cq _ => ?_)
 refine sq (opk_gval cq rfl rfl (g := (true && ((decide (c < (b.length : Int))) == true))) (e := t) rfl (fun hg => r_eql (cv_get (cq.get rfl) hg) rfl) fun jc bb _ => ?_)
 refine sq (opk_gval bb rfl rfl (g := true) (e := (decide (c < (b.length : Int)))) rfl (fun hg => r_pick_or (g := ((true && ((decide (c < (b.length : Int))) == true)) && (t == false))) (cv_get (bb.get rfl) hg) (bb.get rfl) (fun he => g_mkf hg he)) fun jd bd _ => ?_)
 refine sqv bd rfl (r_pick_and (g := (true && ((decide (c < (b.length : Int))) == true))) (bd.get rfl) (bd.get rfl) (fun he => g_mkt rfl he)) fun _ f3 => sq_end ?_
 have aP := f3.kp [(0, .string (Bs b)), (2, .int .i64 i), (6, pB d 0), (9, .int .i64 c), (10, pB f 0), (38, .bool ((decide (c < (b.length : Int))) && (t || (decide (((b.getD c.toNat 0).toNat : Int) = 47)))))] rfl
 refine then_normal ?_
 refine wp_cond_split (aP.get rfl) (fun hc => ?_) (fun hc => ?_)
 ·have f4 := cp.1 ⟨(of_decide_eq_true (b_and_t hc).1), ((b_or_t (b_and_t hc).2).imp (fun h => h) (fun h => (of_decide_eq_true h)))⟩
  clear hc
  refine wp_skip ?_
  refine then_normal (wp_block (wp_region_lit ?_))
  refine sqv aP rfl (r_move (aP.get rfl)) fun _ cr => ?_
  obtain ⟨f5, ct⟩ := f4
  refine sqv cr rfl (r_addI (cr.get rfl) rfl f5) fun _ cu => sqv cu rfl (r_assign (cu.get rfl)) fun _ f6 => sq_end ?_
  have f7 := f6.kp [(0, .string (Bs b)), (2, .int .i64 i), (6, pB d 0), (9, .int .i64 (c + 1)), (10, pB f 0)] rfl
  refine block_normal ?_
  have f8 := f7.kp [(0, .string (Bs b)), (2, .int .i64 i), (6, pB d 0), (9, .int .i64 (c + 1)), (10, pB f 0)] rfl
  exact then_normal ⟨(c + 1, p), ⟨f8, au, av, rfl, ct.1⟩, ct.2⟩
 ·have cv := cp.2 ((b_and_f hc).imp (fun h => (of_decide_eq_false h)) (fun h => ⟨(b_or_f h).1, (of_decide_eq_false (b_or_f h).2)⟩))
  clear hc
  refine wp_exit ?_
  refine then_exit ?_
  refine then_exit ?_
  refine block_hit ?_
  have cx := aP.kp [(0, .string (Bs b)), (2, .int .i64 i), (6, pB d 0), (9, .int .i64 c), (10, pB f 0)] rfl
  refine then_normal (wp_seq (wp_seq (wp_region_lit ?_)))
  refine sqv cx rfl (r_move (cx.get rfl)) fun _ cy => sqv cy rfl (r_move (cy.get rfl)) fun _ cz => sqv cz rfl (r_slen (cz.get rfl) tU9) fun _ bf => sqv bf rfl (r_geq (bf.get rfl) (bf.get rfl)) fun _ f9 => sq_end ?_
  have aQ := f9.kp [(0, .string (Bs b)), (2, .int .i64 i), (6, pB d 0), (9, .int .i64 c), (10, pB f 0), (44, .bool (decide ((b.length : Int) ≤ c)))] rfl
  refine then_normal ?_
  refine wp_cond_split (aQ.get rfl) (fun hc => ?_) (fun hc => ?_)
  ·have ga := cv.1 (of_decide_eq_true hc)
   clear hc
   refine wp_seq (wp_region_lit ?_)
   refine sqv aQ rfl (r_build (vs := #[]) (cells := #[.int .i64 0, .string (Bs []), .string (Bs []), Sl.v Sl.nil, .bool false]) (map_arr2 ml2_nil) ti_51 Tryz.underlying51 pl_51 (by kernel_rfl)) fun _ cA => sqv cA rfl (r_move (cA.get rfl)) fun _ cB => sqv cB rfl (r_slen (cB.get rfl) tU9) fun _ bg => ?_
   refine sq (opk_store bg au (r_store (vs := [.int .i64 0, .string (Bs []), .string (Bs []), Sl.v Sl.nil, .bool false]) (bg.get rfl) (bg.get rfl) rfl ti_51 au rfl (ones_all _ rfl)) fun jf al cD gc cF => ?_)
   have gd : Box al d 51 [.int .i64 0, .string (Bs []), .string (Bs []), Sl.v Sl.nil, .bool false] := gc
   have jg := av.keep cD (by simpa using ar.symm)
   have gf : Chg [d] p al := cD
   refine sqv cF rfl (r_assign (cF.get rfl)) fun _ gg => sqv gg rfl (r_assign rfl) fun _ gh => sq_end ?_
   have aR := gh.kp [(6, pB d 0), (7, .int .i64 (b.length : Int)), (8, .bool false)] rfl
   refine then_normal ?_
   refine wp_ret ?_
   refine then_ret ?_
   refine block_ret ?_
   refine then_ret ?_
   refine block_ret ?_
   have gj := ga al    gf
   exact res_all (vs := [.agg #[.int .i64 0, .string (Bs []), .string (Bs []), Sl.v Sl.nil, .bool false], .int .i64 (b.length : Int), .bool false]) rfl aR ⟨res_of_cell aR rfl gd Tryz.underlying51 rfl ti_51, res_of_tmp aR rfl, res_of_tmp aR rfl, trivial⟩ gj
  ·have gm := cv.2 (of_decide_eq_false hc)
   clear hc
   refine wp_skip ?_
   refine then_normal (wp_seq (wp_seq (wp_region_lit ?_)))
   refine sqv aQ rfl (r_move (aQ.get rfl)) fun _ cH => sqv cH rfl (r_move (cH.get rfl)) fun _ bi => ?_
   obtain ⟨gq, cI⟩ := gm
   refine sqv bi rfl (r_sindex (bi.get rfl) (bi.get rfl) tU9 gq) fun _ cJ => sqv cJ rfl (r_eql (cJ.get rfl) rfl) fun _ gu => sq_end ?_
   have aI := gu.kp [(0, .string (Bs b)), (2, .int .i64 i), (6, pB d 0), (9, .int .i64 c), (10, pB f 0), (51, .bool (decide (((b.getD c.toNat 0).toNat : Int) = 62)))] rfl
   refine then_normal ?_
   refine wp_cond_split (aI.get rfl) (fun hc => ?_) (fun hc => ?_)
   ·have gG := cI.1 (of_decide_eq_true hc)
    clear hc
    refine wp_seq (wp_seq (wp_region_lit ?_))
    refine sqv aI rfl (r_move (aI.get rfl)) fun _ cK => sqv cK rfl (r_eql (cK.get rfl) rfl) fun _ gJ => sq_end ?_
    have aS := gJ.kp [(6, pB d 0), (9, .int .i64 c), (10, pB f 0), (53, .bool (decide (i = 2)))] rfl
    refine then_normal ?_
    obtain ⟨az, cL, gU⟩ := gG
    refine wp_meet (fun a w => ∃ u : Sl, Ag 112 a [(6, pB d 0), (9, .int .i64 c), (10, pB f 0)] ∧ Box w d 51 [.int .i64 0, .string (Bs []), .string (Bs []), Sl.v Sl.nil, .bool false] ∧ Box w f 51 [.int .i64 i, .string (Bs l), .string (Bs []), Sl.v u, .bool false] ∧ az u w) ?_ ?_
    ·refine wp_cond_split (aS.get rfl) (fun hc => ?_) (fun hc => ?_)
     ·have gY := cL.1 (of_decide_eq_true hc)
      clear hc
      refine wp_region_lit ?_
      refine sqv aS rfl (r_fieldAddr (aS.get rfl) Tryz.underlying51 rfl ti_25 (by decide)) fun _ cM => ?_
      refine sq (opk_store cM av (r_store (vs := [Sl.v Sl.nil]) (cM.get rfl) rfl rfl ti_25 av rfl (ones_all _ rfl)) fun jh am cN g0 g4 => ?_)
      have g5 : Box am f 51 [.int .i64 i, .string (Bs l), .string (Bs []), Sl.v Sl.nil, .bool false] := g0
      have g6 := au.keep cN (by simpa using ar)
      have g7 : Chg [f] p am := cN
      refine sq_end ?_
      have g8 := g4.kp [(6, pB d 0), (9, .int .i64 c), (10, pB f 0)] rfl
      have g9 := gY am    g7
      have ha := g8.kp [(6, pB d 0), (9, .int .i64 c), (10, pB f 0)] rfl
      exact then_normal ⟨Sl.nil, ha, g6, g5, g9⟩
     ·have hb := cL.2 (of_decide_eq_false hc)
      clear hc
      refine wp_skip ?_
      have hd := aS.kp [(6, pB d 0), (9, .int .i64 c), (10, pB f 0)] rfl
      exact then_normal ⟨m, hd, au, av, hb⟩
    ·intro ji aA hm
     obtain ⟨u, cO, cP, cQ, hf⟩ := hm
     have hh := gU u aA hf
     refine then_normal (wp_seq (wp_region_lit ?_))
     refine sqv cO rfl (r_loadN (cs := [.int .i64 i, .string (Bs l), .string (Bs []), Sl.v u, .bool false]) Tryz.underlying51 rfl ti_51 (cO.get rfl) (cQ.part 0 _ rfl)) fun _ cS => sqv cS rfl (r_move (cS.get rfl)) fun _ cT => ?_
     obtain ⟨hi, hj⟩ := hh
     refine sqv cT rfl (r_addI (cT.get rfl) rfl hi) fun _ bj => ?_
     refine sq (opk_store bj cP (r_store (vs := [.int .i64 i, .string (Bs l), .string (Bs []), Sl.v u, .bool false]) (bj.get rfl) (bj.get rfl) rfl ti_51 cP rfl (ones_all _ rfl)) fun jj an cU hk cY => ?_)
     have hl : Box an d 51 [.int .i64 i, .string (Bs l), .string (Bs []), Sl.v u, .bool false] := hk
     have jk := cQ.keep cU (by simpa using ar.symm)
     have hn : Chg [d] aA an := cU
     refine sqv cY rfl (r_assign (cY.get rfl)) fun _ ho => sqv ho rfl (r_assign rfl) fun _ hp => sq_end ?_
     have aU := hp.kp [(6, pB d 0), (7, .int .i64 (c + 1)), (8, .bool true)] rfl
     refine then_normal ?_
     refine wp_ret ?_
     refine then_ret ?_
     refine block_ret ?_
     refine then_ret ?_
     refine block_ret ?_
     have hq := hj an    hn
     exact res_all (vs := [.agg #[.int .i64 i, .string (Bs l), .string (Bs []), Sl.v u, .bool false], .int .i64 (c + 1), .bool true]) rfl aU ⟨res_of_cell aU rfl hl Tryz.underlying51 rfl ti_51, res_of_tmp aU rfl, res_of_tmp aU rfl, trivial⟩ hq
   ·have hr := cI.2 (of_decide_eq_false hc)
    clear hc
    refine wp_skip ?_
    refine then_normal (wp_seq (wp_region_lit ?_))
    refine sqv aI rfl (r_move (aI.get rfl)) fun _ cZ => sqv cZ rfl (r_move (cZ.get rfl)) fun _ c0 => ?_
    obtain ⟨hs, ht⟩ := hr
    refine sqv c0 rfl (r_addI (c0.get rfl) rfl hs) fun _ bk => ?_
    refine sq (opk_call bk rfl (r_call (args := #[.string (Bs b), .int .i64 (c + 1), .string (Bs ([47, 62, 61] : Str))]) Tryz.func82 (by decide) rfl (map_arr (ml_cons (bk.get rfl) (ml_cons (bk.get rfl) (ml_cons rfl ml_nil)))) rfl) ht fun jl jm bX c1 _ c2 jn hu => ?_)
    obtain ⟨x, rfl, hv⟩ := hu
    have hx := au.kept c2 (.head _)
    have hy := av.kept c2 (.tail _ (.head _))
    refine sqv c1 rfl (r_assign (c1.get rfl)) fun _ hz => sq_end ?_
    have c3 := hz.kp [(0, .string (Bs b)), (2, .int .i64 i), (6, pB d 0), (9, .int .i64 c), (10, pB f 0), (11, .int .i64 x)] rfl
    refine then_normal (wp_seq (wp_region_lit ?_))
    refine sqv c3 rfl (r_move (c3.get rfl)) fun _ c4 => sqv c4 rfl (r_move (c4.get rfl)) fun _ c5 => sqv c5 rfl (r_move (c5.get rfl)) fun _ aV => ?_
    obtain ⟨hA, hB⟩ := hv
    refine sqv aV rfl (r_sslice2 (aV.get rfl) (aV.get rfl) (aV.get rfl) tU9 hA) fun _ c6 => ?_
    refine sq (opk_call c6 rfl (r_call (args := #[.string (Bs ((List.drop c.toNat b).take (x.toNat - c.toNat)))]) Tryz.func83 (by decide) rfl (map_arr (ml_cons (c6.get rfl) ml_nil)) rfl) hB fun jo jp aB c7 _ c8 jq hC => ?_)
    obtain ⟨q, rfl, hD⟩ := hC
    have c9 := hx.kept c8 (.head _)
    have da := hy.kept c8 (.tail _ (.head _))
    refine sqv c7 rfl (r_build (vs := #[(0, .string (Bs q))]) (cells := #[.string (Bs q), .string (Bs [])]) (map_arr2 (ml2_cons (c7.get rfl) (ml2_nil))) ti_79 Tryz.underlying79 pl_79 (by kernel_rfl)) fun _ hF => ?_
    refine sq (opk_new (fun B => .pointer (some ⟨B, 0, none⟩)) hF rfl (r_alloc (cs := [.string (Bs []), .string (Bs [])]) ti_79 rfl) fun jr db j bo bp dc bq _ => ?_)
    have bs : d ≠ j := Nat.ne_of_lt (Nat.lt_of_lt_of_le c9.lt bp.ge)
    have bt : f ≠ j := Nat.ne_of_lt (Nat.lt_of_lt_of_le da.lt bp.ge)
    have dd : New aB j db := bp
    have hG := c9.ext bo
    have hH := da.ext bo
    have hI : Chg [] aB db := bo
    refine sq (opk_store bq dc (r_store (vs := [.string (Bs q), .string (Bs [])]) (bq.get rfl) (bq.get rfl) rfl ti_79 dc rfl (ones_all _ rfl)) fun js ao aX hJ hK => ?_)
    have hL : Box ao j 79 [.string (Bs q), .string (Bs [])] := hJ
    have hM := hG.keep aX (by simpa using bs)
    have hN := hH.keep aX (by simpa using bt)
    have hO := hI.storeNew dd aX
    have hP := dd.up aX.size
    refine sq_end ?_
    have df := hK.kp [(0, .string (Bs b)), (2, .int .i64 i), (6, pB d 0), (10, pB f 0), (11, .int .i64 x), (12, pB j 0)] rfl
    refine then_normal (wp_seq (wp_region_lit ?_))
    refine sqv df rfl (r_move (df.get rfl)) fun _ dg => sqv dg rfl (r_move (dg.get rfl)) fun _ bu => ?_
    have hQ := hD ao j hP  hO
    refine sq (opk_call bu rfl (r_call (args := #[.string (Bs b), .int .i64 x]) Tryz.func84 (by decide) rfl (map_arr (ml_cons (bu.get rfl) (ml_cons (bu.get rfl) ml_nil))) rfl) hQ fun jt ju a2 dh _ bv jv hR => ?_)
    obtain ⟨k, rfl, hT⟩ := hR
    have di := hM.kept bv (.head _)
    have dj := hN.kept bv (.tail _ (.head _))
    have dk := hL.kept bv (.tail _ (.tail _ (.head _)))
    refine sqv dh rfl (r_assign (dh.get rfl)) fun _ hU => sq_end ?_
    have dl := hU.kp [(0, .string (Bs b)), (2, .int .i64 i), (6, pB d 0), (9, .int .i64 k), (10, pB f 0), (12, pB j 0)] rfl
    refine then_normal (wp_seq (wp_seq (wp_region_lit ?_)))
    refine sqv dl rfl (r_move (dl.get rfl)) fun _ dm => sqv dm rfl (r_move (dm.get rfl)) fun _ dn => sqv dn rfl (r_slen (dn.get rfl) tU9) fun _ bx => sqv bx rfl (r_lss (bx.get rfl) (bx.get rfl)) fun _ dp => sqv dp rfl (r_move (dp.get rfl)) fun _ dq => ?_
    refine sq (opk_gval dq rfl rfl (g := true) (e := (decide (k < (b.length : Int)))) rfl (fun hg => r_move (dq.get rfl)) fun jx dr _ => ?_)
    refine sq (opk_gval dr rfl rfl (g := true) (e := (decide (k < (b.length : Int)))) rfl (fun hg => r_move (dr.get rfl)) fun jy bz _ => ?_)
    obtain ⟨hV, hX⟩ := hT
    refine sq (opk_gval bz rfl rfl (g := true) (e := (decide (k < (b.length : Int)))) rfl (fun hg => r_sindex (cv_get (bz.get rfl) hg) (cv_get (bz.get rfl) hg) tU9 (hV (of_decide_eq_true (g_t hg)))) fun jz ds _ => ?_)
    refine sq (opk_gval ds rfl rfl (g := true) (e := (decide (k < (b.length : Int)))) rfl (fun hg => r_eql (cv_get (ds.get rfl) hg) rfl) fun jA bA _ => ?_)
    refine sqv bA rfl (r_pick_and (g := (true && ((decide (k < (b.length : Int))) == true))) (bA.get rfl) (bA.get rfl) (fun he => g_mkt rfl he)) fun _ hY => sq_end ?_
    have aY := hY.kp [(0, .string (Bs b)), (2, .int .i64 i), (6, pB d 0), (9, .int .i64 k), (10, pB f 0), (12, pB j 0), (80, .bool ((decide (k < (b.length : Int))) && (decide (((b.getD k.toNat 0).toNat : Int) = 61))))] rfl
    refine then_normal ?_
    obtain ⟨aC, dt, hZ⟩ := hX
    refine wp_meet (fun a w => ∃ n : Int, ∃ ab : Str, Ag 112 a [(0, .string (Bs b)), (2, .int .i64 i), (6, pB d 0), (9, .int .i64 n), (10, pB f 0), (12, pB j 0)] ∧ Box w d 51 [.int .i64 0, .string (Bs []), .string (Bs []), Sl.v Sl.nil, .bool false] ∧ Box w f 51 [.int .i64 i, .string (Bs l), .string (Bs []), Sl.v m, .bool false] ∧ Box w j 79 [.string (Bs q), .string (Bs ab)] ∧ aC n ab w) ?_ ?_
    ·refine wp_cond_split (aY.get rfl) (fun hc => ?_) (fun hc => ?_)
     ·have h0 := dt.1 ⟨(of_decide_eq_true (b_and_t hc).1), (of_decide_eq_true (b_and_t hc).2)⟩
      clear hc
      refine wp_seq (wp_region_lit ?_)
      refine sqv aY rfl (r_move (aY.get rfl)) fun _ du => sqv du rfl (r_move (du.get rfl)) fun _ dv => sqv dv rfl (r_move (dv.get rfl)) fun _ dx => ?_
      obtain ⟨h1, h2⟩ := h0
      refine sqv dx rfl (r_addI (dx.get rfl) rfl h1) fun _ bB => ?_
      refine sq (opk_call bB rfl (r_call (args := #[.string (Bs b), .int .i64 (k + 1)]) Tryz.func84 (by decide) rfl (map_arr (ml_cons (bB.get rfl) (ml_cons (bB.get rfl) ml_nil))) rfl) h2 fun jB jC bY bC _ bD jD h3 => ?_)
      obtain ⟨aK, rfl, h4⟩ := h3
      have h5 := di.kept bD (.head _)
      have h6 := dj.kept bD (.tail _ (.head _))
      have h7 := dk.kept bD (.tail _ (.tail _ (.head _)))
      refine sq (opk_call bC rfl (r_call (args := #[.string (Bs b), .int .i64 aK]) Tryz.func85 (by decide) rfl (map_arr (ml_cons (bC.get rfl) (ml_cons (bC.get rfl) ml_nil))) rfl) h4 fun jF jG aL dy _ bF jH h8 => ?_)
      obtain ⟨ap, y, rfl, dz⟩ := h8
      have h9 := h5.kept bF (.head _)
      have ia := h6.kept bF (.tail _ (.head _))
      have dA := h7.kept bF (.tail _ (.tail _ (.head _)))
      refine sqv dy rfl (r_move (dy.get rfl)) fun _ dB => sqv dB rfl (r_extract (dB.get rfl) rfl) fun _ dC => sqv dC rfl (r_extract (dC.get rfl) rfl) fun _ dD => sqv dD rfl (r_fieldAddr (dD.get rfl) Tryz.underlying79 rfl ti_9 (by decide)) fun _ bG => ?_
      refine sq (opk_store bG dA (r_store (vs := [.string (Bs ap)]) (bG.get rfl) (bG.get rfl) rfl ti_9 dA rfl (ones_all _ rfl)) fun jI aq bH ib dG => ?_)
      have dH : Box aq j 79 [.string (Bs q), .string (Bs ap)] := ib
      have bI := h9.keep bH (by simpa using bs)
      have dI := ia.keep bH (by simpa using bt)
      have dJ : Chg [j] aL aq := bH
      refine sqv dG rfl (r_assign (dG.get rfl)) fun _ id => sq_end ?_
      have dK := id.kp [(0, .string (Bs b)), (2, .int .i64 i), (6, pB d 0), (9, .int .i64 y), (10, pB f 0), (12, pB j 0)] rfl
      refine then_normal (wp_seq (wp_region_lit ?_))
      refine sqv dK rfl (r_move (dK.get rfl)) fun _ dL => sqv dL rfl (r_move (dL.get rfl)) fun _ dM => sqv dM rfl (r_slen (dM.get rfl) tU9) fun _ bJ => sqv bJ rfl (r_gtr (bJ.get rfl) (bJ.get rfl)) fun _ ig => sq_end ?_
      have bK := ig.kp [(0, .string (Bs b)), (2, .int .i64 i), (6, pB d 0), (9, .int .i64 y), (10, pB f 0), (12, pB j 0), (94, .bool (decide ((b.length : Int) < y)))] rfl
      refine then_normal ?_
      refine wp_cond_split (bK.get rfl) (fun hc => ?_) (fun hc => ?_)
      ·have ih := dz.1 (of_decide_eq_true hc)
       clear hc
       refine wp_seq (wp_region_lit ?_)
       refine sqv bK rfl (r_build (vs := #[]) (cells := #[.int .i64 0, .string (Bs []), .string (Bs []), Sl.v Sl.nil, .bool false]) (map_arr2 ml2_nil) ti_51 Tryz.underlying51 pl_51 (by kernel_rfl)) fun _ dN => sqv dN rfl (r_move (dN.get rfl)) fun _ dO => sqv dO rfl (r_slen (dO.get rfl) tU9) fun _ bL => ?_
       refine sq (opk_store bL bI (r_store (vs := [.int .i64 0, .string (Bs []), .string (Bs []), Sl.v Sl.nil, .bool false]) (bL.get rfl) (bL.get rfl) rfl ti_51 bI rfl (ones_all _ rfl)) fun jJ aD bM ii dP => ?_)
       have ij : Box aD d 51 [.int .i64 0, .string (Bs []), .string (Bs []), Sl.v Sl.nil, .bool false] := ii
       have jK := dI.keep bM (by simpa using ar.symm)
       have jL := dH.keep bM (by simpa using bs.symm)
       have ik := dJ.storeOld bM
       refine sqv dP rfl (r_assign (dP.get rfl)) fun _ il => sqv il rfl (r_assign rfl) fun _ im => sq_end ?_
       have aZ := im.kp [(6, pB d 0), (7, .int .i64 (b.length : Int)), (8, .bool false)] rfl
       refine then_normal ?_
       refine wp_ret ?_
       refine then_ret ?_
       refine then_ret ?_
       refine block_ret ?_
       refine then_ret ?_
       refine block_ret ?_
       have io := ih aD    ik
       exact res_all (vs := [.agg #[.int .i64 0, .string (Bs []), .string (Bs []), Sl.v Sl.nil, .bool false], .int .i64 (b.length : Int), .bool false]) rfl aZ ⟨res_of_cell aZ rfl ij Tryz.underlying51 rfl ti_51, res_of_tmp aZ rfl, res_of_tmp aZ rfl, trivial⟩ io
      ·have ip := dz.2 (of_decide_eq_false hc)
       clear hc
       refine wp_skip ?_
       have iq := ip aq    dJ
       have ir := bK.kp [(0, .string (Bs b)), (2, .int .i64 i), (6, pB d 0), (9, .int .i64 y), (10, pB f 0), (12, pB j 0)] rfl
       exact then_normal ⟨y, ap, ir, bI, dI, dH, iq⟩
     ·have it := dt.2 ((b_and_f hc).imp (fun h => (of_decide_eq_false h)) (fun h => (of_decide_eq_false h)))
      clear hc
      refine wp_skip ?_
      have iu := aY.kp [(0, .string (Bs b)), (2, .int .i64 i), (6, pB d 0), (9, .int .i64 k), (10, pB f 0), (12, pB j 0)] rfl
      exact then_normal ⟨k, ([] : Str), iu, di, dj, dk, it⟩
    ·intro jM aM hm
     obtain ⟨n, ab, dQ, iv, dR, dS, ix⟩ := hm
     have iy := hZ n ab aM ix
     refine then_normal (wp_seq (wp_region_lit ?_))
     refine sqv dQ rfl (r_fieldAddr (dQ.get rfl) Tryz.underlying51 rfl ti_25 (by decide)) fun _ dU => sqv dU rfl (r_load1 tU25 rfl (dU.get rfl) (dR.cell 3 _ rfl)) fun _ dV => sqv dV rfl (r_fieldAddr (dV.get rfl) Tryz.underlying79 rfl ti_9 (by decide)) fun _ dX => sqv dX rfl (r_load1 tU9 rfl (dX.get rfl) (dS.cell 0 _ rfl)) fun _ bN => ?_
     refine sq (opk_call bN rfl (r_call (args := #[Sl.v m, .string (Bs q)]) Tryz.func86 (by decide) rfl (map_arr (ml_cons (bN.get rfl) (ml_cons (bN.get rfl) ml_nil))) rfl) iy fun jN jO aG dY _ bO jP iz => ?_)
     obtain ⟨aH, rfl, dZ⟩ := iz
     have d0 := iv.kept bO (.head _)
     have bP := dR.kept bO (.tail _ (.head _))
     have bQ := dS.kept bO (.tail _ (.tail _ (.head _)))
     refine sqv dY rfl (r_not (dY.get rfl)) fun _ iA => sq_end ?_
     have hA1415 := iA.kp [(0, .string (Bs b)), (2, .int .i64 i), (6, pB d 0), (9, .int .i64 n), (10, pB f 0), (12, pB j 0), (103, .bool (!aH))] rfl
     refine then_normal ?_
     refine wp_cond_split (hA1415.get rfl) (fun hc => ?_) (fun hc => ?_)
     ·have iB := dZ.1 (b_not_t hc)
      clear hc
      refine wp_region_lit ?_
      refine sqv hA1415 rfl (r_fieldAddr (hA1415.get rfl) Tryz.underlying51 rfl ti_25 (by decide)) fun _ d1 => sqv d1 rfl (r_load1 tU25 rfl (d1.get rfl) (bP.cell 3 _ rfl)) fun _ d2 => sqv d2 rfl (r_fieldAddr (d2.get rfl) Tryz.underlying79 rfl ti_9 (by decide)) fun _ d3 => sqv d3 rfl (r_load1 tU9 rfl (d3.get rfl) (bQ.cell 0 _ rfl)) fun _ d4 => sqv d4 rfl (r_fieldAddr (d4.get rfl) Tryz.underlying79 rfl ti_9 (by decide)) fun _ d5 => sqv d5 rfl (r_load1 tU9 rfl (d5.get rfl) (bQ.cell 1 _ rfl)) fun _ a1 => ?_
      refine sq (opk_call a1 rfl (r_call (args := #[Sl.v m, .string (Bs q), .string (Bs ab)]) Tryz.func87 (by decide) rfl (map_arr (ml_cons (a1.get rfl) (ml_cons (a1.get rfl) (ml_cons (a1.get rfl) ml_nil)))) rfl) iB fun jQ jR a3 d6 _ bR jS iC => ?_)
      obtain ⟨ai, rfl, iD⟩ := iC
      have iF := d0.kept bR (.head _)
      have d7 := bP.kept bR (.tail _ (.head _))
      have iG := bQ.kept bR (.tail _ (.tail _ (.head _)))
      refine sqv d6 rfl (r_fieldAddr (d6.get rfl) Tryz.underlying51 rfl ti_25 (by decide)) fun _ bS => ?_
      refine sq (opk_store bS d7 (r_store (vs := [Sl.v ai]) (bS.get rfl) (bS.get rfl) rfl ti_25 d7 rfl (ones_all _ rfl)) fun jT ad bT iH iI => ?_)
      have iJ : Box ad f 51 [.int .i64 i, .string (Bs l), .string (Bs []), Sl.v ai, .bool false] := iH
      have iK := iF.keep bT (by simpa using ar)
      have jU := iG.keep bT (by simpa using bt.symm)
      have iL : Chg [f] a3 ad := bT
      refine sq_end ?_
      have iM := iI.kp [(0, .string (Bs b)), (2, .int .i64 i), (6, pB d 0), (9, .int .i64 n), (10, pB f 0)] rfl
      refine block_normal ?_
      have d8 := iD ad    iL
      have iN := iM.kp [(0, .string (Bs b)), (2, .int .i64 i), (6, pB d 0), (9, .int .i64 n), (10, pB f 0)] rfl
      exact then_normal ⟨(n, ai, ad), ⟨iN, iK, iJ, rfl, d8.1⟩, d8.2⟩
     ·have d9 := dZ.2 (b_not_f hc)
      clear hc
      refine wp_skip ?_
      refine block_normal ?_
      have iO := hA1415.kp [(0, .string (Bs b)), (2, .int .i64 i), (6, pB d 0), (9, .int .i64 n), (10, pB f 0)] rfl
      exact then_normal ⟨(n, m, aG), ⟨iO, d0, bP, rfl, d9.1⟩, d9.2⟩
end Go.Proofs.YtenokfdkckhhiaaGreatDoor
