/-
  PRINTED BY PROGRAM: for each function its condition (vc), and that this suffices (ok).
-/
import Derived.Test.YtenokfdkckhhiaaGreatDoorQBuildFostersGT
namespace Go.Proofs.YtenokfdkckhhiaaGreatDoor
open Go.RowKit
set_option linter.unusedVariables false
set_option maxHeartbeats 1000000
set_option maxRecDepth 10000
def ref10_Next.vc (d : Str) (b : Int) (k : Str) (R : Value → World → Prop) (w : World) : Prop :=
(((b < 0) ∨ ((d.length : Int) ≤ b)) →
∀ (t : World) (c : Nat),New w c t → Chg [] w t →
R (.tuple #[.agg #[.int .i64 6,.string (Bs []),.string (Bs []),Sl.v Sl.nil,.bool false],.int .i64 (d.length : Int),.bool true]) t) ∧
(((¬ (b < 0)) ∧ (¬ ((d.length : Int) ≤ b))) →
∀ (o : World) (c : Nat),New w c o → Chg [] w o →
∃ J_196 : World → Prop,
(((k ≠ ([] : Str)) →
CallK Tryz.prog 46 #[.string (Bs k)] o [c] (fun v ca => ∃ (i : Str),v = .string (Bs i) ∧
∃ (a1 : Int → World → Prop) (bI : Int → World → Nat),
a1 b ca ∧
(∀ (f : Int) (p : World),a1 f p →
∃ (a2 : Bool),(((f < (d.length : Int))) → Calls Tryz.prog 47 #[.string (Bs d),.int .i64 f,.string (Bs i)] p (Ret fun v w' => Ext p w' ∧ v = .bool a2)) ∧
(∀ m : World,Ext p m →
(((f < (d.length : Int)) ∧ (a2 = false)) →
(I64 (f + 1)) ∧
a1 (f + 1) m ∧ bI (f + 1) m < bI f p) ∧
(((¬ (f < (d.length : Int))) ∨ (a2 = true)) →
((b < f) →
((0 : Int) ≤ b ∧ (b : Int) ≤ f ∧ f ≤ (d.length : Int)) ∧
CallK Tryz.prog 30 #[.string (Bs i)] m [c] (fun v bJ => ∃ (a3 : Int),v = .int .i64 a3 ∧
((a3 = 1) →
CallK Tryz.prog 48 #[.string (Bs ((List.drop b.toNat d).take (f.toNat - b.toNat))),.bool false] bJ [c] (fun v cb => ∃ (n : Str),v = .string (Bs n) ∧
∀ (u : World),Chg [c] cb u →
R (.tuple #[.agg #[.int .i64 3,.string (Bs []),.string (Bs n),Sl.v Sl.nil,.bool true],.int .i64 f,.bool true]) u)) ∧
((¬ (a3 = 1)) →
∀ (x : World),Chg [c] bJ x →
R (.tuple #[.agg #[.int .i64 3,.string (Bs []),.string (Bs ((List.drop b.toNat d).take (f.toNat - b.toNat))),Sl.v Sl.nil,.bool true],.int .i64 f,.bool true]) x))) ∧
((¬ (b < f)) →
J_196 m)))))) ∧
((¬ (k ≠ ([] : Str))) →
J_196 o)) ∧
(∀ (a4 : World),J_196 a4 →
((0 : Int) ≤ b ∧ b < (d.length : Int)) ∧
((((d.getD b.toNat 0).toNat : Int) ≠ 60) →
CallK Tryz.prog 49 #[.string (Bs d),.int .i64 b] a4 [c] (fun v cc => ∃ (y : Int) (z : Str) (aa : Str) (ab : Sl) (ad : Bool) (a5 : Int) (r_2_371 : Bool),v = .tuple #[.agg #[.int .i64 y,.string (Bs z),.string (Bs aa),Sl.v ab,.bool ad],.int .i64 a5,.bool r_2_371] ∧
∀ (af : World),Chg [c] cc af →
R (.tuple #[.agg #[.int .i64 y,.string (Bs z),.string (Bs aa),Sl.v ab,.bool ad],.int .i64 a5,.bool r_2_371]) af)) ∧
((¬ (((d.getD b.toNat 0).toNat : Int) ≠ 60)) →
(I64 (b + 1)) ∧
CallK Tryz.prog 50 #[.string (Bs d),.int .i64 (b + 1)] a4 [c] (fun v cd => ∃ (a7 : Bool),v = .bool a7 ∧
((a7 = true) →
(I64 (b + 1)) ∧
CallK Tryz.prog 51 #[.string (Bs d),.int .i64 (b + 1),.int .i64 1] cd [c] (fun v cf => ∃ (ag : Int) (ah : Str) (ai : Str) (aj : Sl) (ak : Bool) (a8 : Int) (a9 : Bool),v = .tuple #[.agg #[.int .i64 ag,.string (Bs ah),.string (Bs ai),Sl.v aj,.bool ak],.int .i64 a8,.bool a9] ∧
∀ (al : World),Chg [c] cf al →
R (.tuple #[.agg #[.int .i64 ag,.string (Bs ah),.string (Bs ai),Sl.v aj,.bool ak],.int .i64 a8,.bool a9]) al)) ∧
((a7 = false) →
CallK Tryz.prog 52 #[.string (Bs d),.int .i64 b,.string (Bs ([60,47] : Str))] cd [c] (fun v ba => ∃ (l : Bool),v = .bool l ∧
(((l = true)) → I64 (b + 2)) ∧
∃ (bb : Bool),(((l = true)) → Calls Tryz.prog 50 #[.string (Bs d),.int .i64 (b + 2)] ba (Ret fun v w' => Ext ba w' ∧ v = .bool bb)) ∧
(∀ am : World,Ext ba am →
(((l = true) ∧ (bb = true)) →
(I64 (b + 2)) ∧
CallK Tryz.prog 51 #[.string (Bs d),.int .i64 (b + 2),.int .i64 2] am [c] (fun v cg => ∃ (an : Int) (ao : Str) (ap : Str) (aq : Sl) (ar : Bool) (bd : Int) (bf : Bool),v = .tuple #[.agg #[.int .i64 an,.string (Bs ao),.string (Bs ap),Sl.v aq,.bool ar],.int .i64 bd,.bool bf] ∧
∀ (au : World),Chg [c] cg au →
R (.tuple #[.agg #[.int .i64 an,.string (Bs ao),.string (Bs ap),Sl.v aq,.bool ar],.int .i64 bd,.bool bf]) au)) ∧
(((l = false) ∨ (bb = false)) →
CallK Tryz.prog 52 #[.string (Bs d),.int .i64 b,.string (Bs ([60,33,45,45] : Str))] am [c] (fun v ch => ∃ (bg : Bool),v = .bool bg ∧
((bg = true) →
(I64 (b + 4)) ∧
CallK Tryz.prog 53 #[.string (Bs d),.int .i64 (b + 4)] ch [c] (fun v ci => ∃ (av : Int) (ax : Str) (ay : Str) (az : Sl) (aA : Bool) (bi : Int) (bj : Bool),v = .tuple #[.agg #[.int .i64 av,.string (Bs ax),.string (Bs ay),Sl.v az,.bool aA],.int .i64 bi,.bool bj] ∧
∀ (aB : World),Chg [c] ci aB →
R (.tuple #[.agg #[.int .i64 av,.string (Bs ax),.string (Bs ay),Sl.v az,.bool aA],.int .i64 bi,.bool bj]) aB)) ∧
((bg = false) →
CallK Tryz.prog 52 #[.string (Bs d),.int .i64 b,.string (Bs ([60,33,100,111,99,116,121,112,101] : Str))] ch [c] (fun v cj => ∃ (bk : Bool),v = .bool bk ∧
((bk = true) →
(I64 (b + 9)) ∧
CallK Tryz.prog 54 #[.string (Bs d),.int .i64 (b + 9)] cj [c] (fun v ck => ∃ (aC : Int) (aD : Str) (aG : Str) (aH : Sl) (aI : Bool) (bl : Int) (bo : Bool),v = .tuple #[.agg #[.int .i64 aC,.string (Bs aD),.string (Bs aG),Sl.v aH,.bool aI],.int .i64 bl,.bool bo] ∧
∀ (aJ : World),Chg [c] ck aJ →
R (.tuple #[.agg #[.int .i64 aC,.string (Bs aD),.string (Bs aG),Sl.v aH,.bool aI],.int .i64 bl,.bool bo]) aJ)) ∧
((bk = false) →
CallK Tryz.prog 52 #[.string (Bs d),.int .i64 b,.string (Bs ([60,47,62] : Str))] cj [c] (fun v bK => ∃ (bp : Bool),v = .bool bp ∧
((bp = true) →
(I64 (b + 3)) ∧
∀ (aK : World),Chg [c] bK aK →
R (.tuple #[.agg #[.int .i64 0,.string (Bs []),.string (Bs []),Sl.v Sl.nil,.bool false],.int .i64 (b + 3),.bool false]) aK) ∧
((bp = false) →
CallK Tryz.prog 52 #[.string (Bs d),.int .i64 b,.string (Bs ([60,33] : Str))] bK [c] (fun v cl => ∃ (q : Bool),v = .bool q ∧
∃ bq : Bool → World → Prop,
(((q = true) →
bq q cl) ∧
((q = false) →
CallK Tryz.prog 52 #[.string (Bs d),.int .i64 b,.string (Bs ([60,47] : Str))] cl [c] (fun v dh => ∃ (j : Bool),v = .bool j ∧
(((j = true)) → I64 (b + 2)) ∧
bq (j && (decide ((b + 2) < (d.length : Int)))) dh))) ∧
(∀ (r : Bool) (bs : World),bq r bs →
((r = true) →
(I64 (b + 2)) ∧
CallK Tryz.prog 55 #[.string (Bs d),.int .i64 (b + 2)] bs [c] (fun v cm => ∃ (aL : Int) (aM : Str) (aN : Str) (aO : Sl) (aP : Bool) (bt : Int) (bu : Bool),v = .tuple #[.agg #[.int .i64 aL,.string (Bs aM),.string (Bs aN),Sl.v aO,.bool aP],.int .i64 bt,.bool bu] ∧
∀ (aQ : World),Chg [c] cm aQ →
R (.tuple #[.agg #[.int .i64 aL,.string (Bs aM),.string (Bs aN),Sl.v aO,.bool aP],.int .i64 bt,.bool bu]) aQ)) ∧
((r = false) →
CallK Tryz.prog 52 #[.string (Bs d),.int .i64 b,.string (Bs ([60,63] : Str))] bs [c] (fun v bL => ∃ (bv : Bool),v = .bool bv ∧
((bv = true) →
(I64 (b + 1)) ∧
CallK Tryz.prog 55 #[.string (Bs d),.int .i64 (b + 1)] bL [c] (fun v cn => ∃ (aR : Int) (aS : Str) (aU : Str) (aV : Sl) (aX : Bool) (bx : Int) (bz : Bool),v = .tuple #[.agg #[.int .i64 aR,.string (Bs aS),.string (Bs aU),Sl.v aV,.bool aX],.int .i64 bx,.bool bz] ∧
∀ (aY : World),Chg [c] cn aY →
R (.tuple #[.agg #[.int .i64 aR,.string (Bs aS),.string (Bs aU),Sl.v aV,.bool aX],.int .i64 bx,.bool bz]) aY)) ∧
((bv = false) →
(I64 (b + 1)) ∧
∀ (aZ : World),Chg [c] bL aZ →
R (.tuple #[.agg #[.int .i64 3,.string (Bs []),.string (Bs ([60] : Str)),Sl.v Sl.nil,.bool false],.int .i64 (b + 1),.bool true]) aZ)))))))))))))))))))
theorem ref10_Next.ok (d : Str) (b : Int) (k : Str) {R : Value → World → Prop} {w : World} (co : ref10_Next.vc d b k R w) : Calls Tryz.prog 29 #[.string (Bs d),.int .i64 b,.string (Bs k)] w (Ret R) := by
 refine enter [.string (Bs d),.int .i64 b,.string (Bs k)] Tryz.func29 rfl Tryz.ntmps29 rfl ?_
 intro a0 hK
 unfold ref10_Next.vc at co
 refine wp_seq (wp_region_lit ?_)
 refine sq (opk_new (fun B => .pointer (some ⟨B,0,none⟩)) hK rfl (r_alloc (cs := [.int .i64 0,.string (Bs []),.string (Bs []),Sl.v Sl.nil,.bool false]) ti_51 rfl) fun a6 o c hL hM bM hN _ => ?_)
 have cp : New w c o := hM
 have di : Chg [] w o := hL
 refine sqv hN rfl (r_assign rfl) fun _ hO => sqv hO rfl (r_assign rfl) fun _ hP => sq_end ?_
 have dj := hP.kp [(0,.string (Bs d)),(1,.int .i64 b),(2,.string (Bs k)),(6,pB c 0)] rfl
 refine then_normal (wp_seq (wp_seq (wp_region_lit ?_)))
 refine sqv dj rfl (r_move (dj.get rfl)) fun _ dk => sqv dk rfl (r_lss (dk.get rfl) rfl) fun _ dl => sqv dl rfl (r_move (dl.get rfl)) fun _ dm => ?_
 refine sq (opk_gval dm rfl rfl (g := true) (e := (decide (b < 0))) rfl (fun hg => r_move (dm.get rfl)) fun mo dn _ => ?_)
 refine sq (opk_gval dn rfl rfl (g := true) (e := (decide (b < 0))) rfl (fun hg => r_move (dn.get rfl)) fun mp dp _ => ?_)
 refine sq (opk_gval dp rfl rfl (g := true) (e := (decide (b < 0))) rfl (fun hg => r_slen (cv_get (dp.get rfl) hg) tU9) fun mq cq _ => ?_)
 refine sq (opk_gval cq rfl rfl (g := true) (e := (decide (b < 0))) rfl (fun hg => r_geq (cv_get (cq.get rfl) hg) (cv_get (cq.get rfl) hg)) fun mr cr _ => ?_)
 refine sqv cr rfl (r_pick_or (g := (true && ((decide (b < 0)) == false))) (cr.get rfl) (cr.get rfl) (fun he => g_mkf rfl he)) fun _ hQ => sq_end ?_
 have bN := hQ.kp [(0,.string (Bs d)),(1,.int .i64 b),(2,.string (Bs k)),(6,pB c 0),(19,.bool ((decide (b < 0)) || (decide ((d.length : Int) ≤ b))))] rfl
 refine then_normal ?_
 refine wp_cond_split (bN.get rfl) (fun hc => ?_) (fun hc => ?_)
 ·have hR := co.1 ((b_or_t hc).imp (fun h => (of_decide_eq_true h)) (fun h => (of_decide_eq_true h)))
  clear hc
  refine wp_seq (wp_region_lit ?_)
  refine sqv bN rfl (r_build (vs := #[(0,.int .i64 6)]) (cells := #[.int .i64 6,.string (Bs []),.string (Bs []),Sl.v Sl.nil,.bool false]) (map_arr2 (ml2_cons rfl (ml2_nil))) ti_51 Tryz.underlying51 pl_51 (by kernel_rfl)) fun _ dq => sqv dq rfl (r_move (dq.get rfl)) fun _ dr => sqv dr rfl (r_slen (dr.get rfl) tU9) fun _ ct => ?_
  refine sq (opk_store ct bM (r_store (vs := [.int .i64 6,.string (Bs []),.string (Bs []),Sl.v Sl.nil,.bool false]) (ct.get rfl) (ct.get rfl) rfl ti_51 bM rfl (ones_all _ rfl)) fun ms t ds hT dt => ?_)
  have hU : Box t c 51 [.int .i64 6,.string (Bs []),.string (Bs []),Sl.v Sl.nil,.bool false] := hT
  have hV := di.storeNew cp ds
  have hX := cp.up ds.size
  refine sqv dt rfl (r_assign (dt.get rfl)) fun _ hY => sqv hY rfl (r_assign rfl) fun _ hZ => sq_end ?_
  have bO := hZ.kp [(6,pB c 0),(7,.int .i64 (d.length : Int)),(8,.bool true)] rfl
  refine then_normal ?_
  refine wp_ret ?_
  refine then_ret ?_
  have h0 := hR t c hX  hV
  exact res_all (vs := [.agg #[.int .i64 6,.string (Bs []),.string (Bs []),Sl.v Sl.nil,.bool false],.int .i64 (d.length : Int),.bool true]) rfl bO ⟨res_of_cell bO rfl hU Tryz.underlying51 rfl ti_51,res_of_tmp bO rfl,res_of_tmp bO rfl,trivial⟩ h0
 ·have h1 := co.2 ⟨(of_decide_eq_false (b_or_f hc).1),(of_decide_eq_false (b_or_f hc).2)⟩
  clear hc
  refine wp_skip ?_
  refine then_normal (wp_seq (wp_seq (wp_region_lit ?_)))
  refine sqv bN rfl (r_move (bN.get rfl)) fun _ du => sqv du rfl (r_sneq (du.get rfl) rfl) fun _ h2 => sq_end ?_
  have bP := h2.kp [(0,.string (Bs d)),(1,.int .i64 b),(2,.string (Bs k)),(6,pB c 0),(24,.bool (decide (k ≠ ([] : Str))))] rfl
  refine then_normal ?_
  have h3 := h1 o c cp  di
  obtain ⟨J_196,dv,h4⟩ := h3
  refine wp_meet (fun a w => Ag 160 a [(0,.string (Bs d)),(1,.int .i64 b),(6,pB c 0)] ∧ Box w c 51 [.int .i64 0,.string (Bs []),.string (Bs []),Sl.v Sl.nil,.bool false] ∧ J_196 w) ?_ ?_
  ·refine wp_cond_split (bP.get rfl) (fun hc => ?_) (fun hc => ?_)
   ·have h5 := dv.1 (of_decide_eq_true hc)
    clear hc
    refine wp_seq (wp_region_lit ?_)
    refine sqv bP rfl (r_move (bP.get rfl)) fun _ dx => ?_
    refine sq (opk_call dx rfl (r_call (args := #[.string (Bs k)]) Tryz.func46 (by decide) rfl (map_arr (ml_cons (dx.get rfl) ml_nil)) rfl) h5 fun mt mu ca dy _ h6 mv h7 => ?_)
    obtain ⟨i,rfl,h8⟩ := h7
    have h9 := bM.kept h6 (.head _)
    refine sqv dy rfl (r_assign (dy.get rfl)) fun _ ia => sq_end ?_
    have dz := ia.kp [(0,.string (Bs d)),(1,.int .i64 b),(6,pB c 0),(9,.string (Bs i))] rfl
    refine then_normal (wp_seq (wp_region_lit ?_))
    refine sqv dz rfl (r_move (dz.get rfl)) fun _ dA => sqv dA rfl (r_assign (dA.get rfl)) fun _ ib => sq_end ?_
    have id := ib.kp [(0,.string (Bs d)),(1,.int .i64 b),(6,pB c 0),(9,.string (Bs i)),(10,.int .i64 b)] rfl
    refine then_normal (wp_seq (wp_block ?_))
    obtain ⟨a1,bI,ig,ih⟩ := h8
    refine wp_loop_st (σ := Int × World) (fun s a w => Ag 160 a [(0,.string (Bs d)),(1,.int .i64 b),(6,pB c 0),(9,.string (Bs i)),(10,.int .i64 s.1)] ∧ Box w c 51 [.int .i64 0,.string (Bs []),.string (Bs []),Sl.v Sl.nil,.bool false] ∧ w = s.2 ∧ a1 s.1 s.2) (fun s => bI s.1 s.2) (b,ca) ⟨id.kp [(0,.string (Bs d)),(1,.int .i64 b),(6,pB c 0),(9,.string (Bs i)),(10,.int .i64 b)] rfl,h9,rfl,ig⟩ ?_
    rintro ⟨f,p⟩ mx w_ ⟨dB,ii,hw_,ij⟩
    have hw_ : p = w_ := hw_.symm
    subst hw_
    have ik := ih f _ ij
    refine wp_seq (wp_seq (wp_region_lit ?_))
    refine sqv dB rfl (r_move (dB.get rfl)) fun _ dC => sqv dC rfl (r_move (dC.get rfl)) fun _ dD => sqv dD rfl (r_slen (dD.get rfl) tU9) fun _ cu => sqv cu rfl (r_lss (cu.get rfl) (cu.get rfl)) fun _ dG => sqv dG rfl (r_move (dG.get rfl)) fun _ dH => ?_
    refine sq (opk_gval dH rfl rfl (g := true) (e := (decide (f < (d.length : Int)))) rfl (fun hg => r_move (dH.get rfl)) fun my dI _ => ?_)
    refine sq (opk_gval dI rfl rfl (g := true) (e := (decide (f < (d.length : Int)))) rfl (fun hg => r_move (dI.get rfl)) fun mz dJ _ => ?_)
    refine sq (opk_gval dJ rfl rfl (g := true) (e := (decide (f < (d.length : Int)))) rfl (fun hg => r_move (dJ.get rfl)) fun mA bQ _ => ?_)
    obtain ⟨a2,il,im⟩ := ik
    refine sq (opk_gcall bQ rfl rfl (g := true) (e := (decide (f < (d.length : Int)))) rfl (fun hg => r_call (args := #[.string (Bs d),.int .i64 f,.string (Bs i)]) Tryz.func47 (by decide) rfl (map_arr (ml_cons (cv_get (bQ.get rfl) hg) (ml_cons (cv_get (bQ.get rfl) hg) (ml_cons (cv_get (bQ.get rfl) hg) ml_nil)))) rfl) (fun hg => il (of_decide_eq_true (g_t hg))) fun mB m dK _ cv => ?_)
    have cx := ii.ext cv
    have mC : Chg [] p m := cv
    have dL := im m cv
    refine sq (opk_gval dK rfl rfl (g := true) (e := (decide (f < (d.length : Int)))) rfl (fun hg => r_not (cv_get (dK.get rfl) hg)) fun mD cy _ => ?_)
    refine sqv cy rfl (r_pick_and (g := (true && ((decide (f < (d.length : Int))) == true))) (cy.get rfl) (cy.get rfl) (fun he => g_mkt rfl he)) fun _ io => sq_end ?_
    have bR := io.kp [(0,.string (Bs d)),(1,.int .i64 b),(6,pB c 0),(9,.string (Bs i)),(10,.int .i64 f),(38,.bool ((decide (f < (d.length : Int))) && (!a2)))] rfl
    refine then_normal ?_
    refine wp_cond_split (bR.get rfl) (fun hc => ?_) (fun hc => ?_)
    ·have ip := dL.1 ⟨(of_decide_eq_true (b_and_t hc).1),(b_not_t (b_and_t hc).2)⟩
     clear hc
     refine wp_skip ?_
     refine then_normal (wp_block (wp_region_lit ?_))
     refine sqv bR rfl (r_move (bR.get rfl)) fun _ dM => ?_
     obtain ⟨iq,dN⟩ := ip
     refine sqv dM rfl (r_addI (dM.get rfl) rfl iq) fun _ dO => sqv dO rfl (r_assign (dO.get rfl)) fun _ ir => sq_end ?_
     have it := ir.kp [(0,.string (Bs d)),(1,.int .i64 b),(6,pB c 0),(9,.string (Bs i)),(10,.int .i64 (f + 1))] rfl
     refine block_normal ?_
     have iu := it.kp [(0,.string (Bs d)),(1,.int .i64 b),(6,pB c 0),(9,.string (Bs i)),(10,.int .i64 (f + 1))] rfl
     exact then_normal ⟨(f + 1,m),⟨iu,cx,rfl,dN.1⟩,dN.2⟩
    ·have dP := dL.2 ((b_and_f hc).imp (fun h => (of_decide_eq_false h)) (fun h => (b_not_f h)))
     clear hc
     refine wp_exit ?_
     refine then_exit ?_
     refine then_exit ?_
     refine block_hit ?_
     have dQ := bR.kp [(0,.string (Bs d)),(1,.int .i64 b),(6,pB c 0),(9,.string (Bs i)),(10,.int .i64 f)] rfl
     refine then_normal (wp_seq (wp_region_lit ?_))
     refine sqv dQ rfl (r_move (dQ.get rfl)) fun _ dR => sqv dR rfl (r_move (dR.get rfl)) fun _ cz => sqv cz rfl (r_gtr (cz.get rfl) (cz.get rfl)) fun _ iv => sq_end ?_
     have bS := iv.kp [(0,.string (Bs d)),(1,.int .i64 b),(6,pB c 0),(9,.string (Bs i)),(10,.int .i64 f),(43,.bool (decide (b < f)))] rfl
     refine then_normal ?_
     refine wp_cond_split (bS.get rfl) (fun hc => ?_) (fun hc => ?_)
     ·have ix := dP.1 (of_decide_eq_true hc)
      clear hc
      refine wp_seq (wp_region_lit ?_)
      refine sqv bS rfl (r_move (bS.get rfl)) fun _ dS => sqv dS rfl (r_move (dS.get rfl)) fun _ dU => sqv dU rfl (r_move (dU.get rfl)) fun _ bT => ?_
      obtain ⟨iy,iz⟩ := ix
      refine sqv bT rfl (r_sslice2 (bT.get rfl) (bT.get rfl) (bT.get rfl) tU9 iy) fun _ dV => sqv dV rfl (r_assign (dV.get rfl)) fun _ iA => sq_end ?_
      have dX := iA.kp [(6,pB c 0),(9,.string (Bs i)),(10,.int .i64 f),(11,.string (Bs ((List.drop b.toNat d).take (f.toNat - b.toNat))))] rfl
      refine then_normal (wp_seq (wp_seq (wp_region_lit ?_)))
      refine sqv dX rfl (r_move (dX.get rfl)) fun _ dY => ?_
      refine sq (opk_call dY rfl (r_call (args := #[.string (Bs i)]) Tryz.func30 (by decide) rfl (map_arr (ml_cons (dY.get rfl) ml_nil)) rfl) iz fun mF mG bJ dZ _ iB mH iC => ?_)
      obtain ⟨a3,rfl,d0⟩ := iC
      have cA := cx.kept iB (.head _)
      refine sqv dZ rfl (r_eql (dZ.get rfl) rfl) fun _ iD => sq_end ?_
      have bA := iD.kp [(6,pB c 0),(10,.int .i64 f),(11,.string (Bs ((List.drop b.toNat d).take (f.toNat - b.toNat)))),(50,.bool (decide (a3 = 1)))] rfl
      refine then_normal ?_
      refine wp_cond_split (bA.get rfl) (fun hc => ?_) (fun hc => ?_)
      ·have iF := d0.1 (of_decide_eq_true hc)
       clear hc
       refine wp_region_lit ?_
       refine sqv bA rfl (r_move (bA.get rfl)) fun _ d1 => ?_
       refine sq (opk_call d1 rfl (r_call (args := #[.string (Bs ((List.drop b.toNat d).take (f.toNat - b.toNat))),.bool false]) Tryz.func48 (by decide) rfl (map_arr (ml_cons (d1.get rfl) (ml_cons rfl ml_nil))) rfl) iF fun mI mJ cb d2 _ iG mK iH => ?_)
       obtain ⟨n,rfl,iI⟩ := iH
       have d3 := cA.kept iG (.head _)
       refine sqv d2 rfl (r_assign (d2.get rfl)) fun _ iJ => sq_end ?_
       have d4 := iJ.kp [(6,pB c 0),(10,.int .i64 f),(11,.string (Bs n))] rfl
       refine then_normal (wp_seq (wp_region_lit ?_))
       refine sqv d4 rfl (r_move (d4.get rfl)) fun _ d5 => sqv d5 rfl (r_build (vs := #[(0,.int .i64 3),(2,.string (Bs n)),(4,.bool true)]) (cells := #[.int .i64 3,.string (Bs []),.string (Bs n),Sl.v Sl.nil,.bool true]) (map_arr2 (ml2_cons rfl (ml2_cons (d5.get rfl) (ml2_cons rfl (ml2_nil))))) ti_51 Tryz.underlying51 pl_51 (by kernel_rfl)) fun _ d6 => sqv d6 rfl (r_move (d6.get rfl)) fun _ cB => ?_
       refine sq (opk_store cB d3 (r_store (vs := [.int .i64 3,.string (Bs []),.string (Bs n),Sl.v Sl.nil,.bool true]) (cB.get rfl) (cB.get rfl) rfl ti_51 d3 rfl (ones_all _ rfl)) fun mL u iK iL d7 => ?_)
       have iM : Box u c 51 [.int .i64 3,.string (Bs []),.string (Bs n),Sl.v Sl.nil,.bool true] := iL
       have iN : Chg [c] cb u := iK
       refine sqv d7 rfl (r_assign (d7.get rfl)) fun _ iO => sqv iO rfl (r_assign rfl) fun _ iP => sq_end ?_
       have bU := iP.kp [(6,pB c 0),(7,.int .i64 f),(8,.bool true)] rfl
       refine then_normal ?_
       refine wp_ret ?_
       refine then_ret ?_
       refine then_ret ?_
       have iQ := iI u    iN
       exact res_all (vs := [.agg #[.int .i64 3,.string (Bs []),.string (Bs n),Sl.v Sl.nil,.bool true],.int .i64 f,.bool true]) rfl bU ⟨res_of_cell bU rfl iM Tryz.underlying51 rfl ti_51,res_of_tmp bU rfl,res_of_tmp bU rfl,trivial⟩ iQ
      ·have iR := d0.2 (of_decide_eq_false hc)
       clear hc
       refine wp_skip ?_
       refine then_normal (wp_seq (wp_region_lit ?_))
       refine sqv bA rfl (r_move (bA.get rfl)) fun _ d8 => sqv d8 rfl (r_build (vs := #[(0,.int .i64 3),(2,.string (Bs ((List.drop b.toNat d).take (f.toNat - b.toNat)))),(4,.bool true)]) (cells := #[.int .i64 3,.string (Bs []),.string (Bs ((List.drop b.toNat d).take (f.toNat - b.toNat))),Sl.v Sl.nil,.bool true]) (map_arr2 (ml2_cons rfl (ml2_cons (d8.get rfl) (ml2_cons rfl (ml2_nil))))) ti_51 Tryz.underlying51 pl_51 (by kernel_rfl)) fun _ d9 => sqv d9 rfl (r_move (d9.get rfl)) fun _ cD => ?_
       refine sq (opk_store cD cA (r_store (vs := [.int .i64 3,.string (Bs []),.string (Bs ((List.drop b.toNat d).take (f.toNat - b.toNat))),Sl.v Sl.nil,.bool true]) (cD.get rfl) (cD.get rfl) rfl ti_51 cA rfl (ones_all _ rfl)) fun mM x iS iT fa => ?_)
       have iU : Box x c 51 [.int .i64 3,.string (Bs []),.string (Bs ((List.drop b.toNat d).take (f.toNat - b.toNat))),Sl.v Sl.nil,.bool true] := iT
       have iX : Chg [c] bJ x := iS
       refine sqv fa rfl (r_assign (fa.get rfl)) fun _ iY => sqv iY rfl (r_assign rfl) fun _ iZ => sq_end ?_
       have bX := iZ.kp [(6,pB c 0),(7,.int .i64 f),(8,.bool true)] rfl
       refine then_normal ?_
       refine wp_ret ?_
       refine then_ret ?_
       refine then_ret ?_
       have i0 := iR x    iX
       exact res_all (vs := [.agg #[.int .i64 3,.string (Bs []),.string (Bs ((List.drop b.toNat d).take (f.toNat - b.toNat))),Sl.v Sl.nil,.bool true],.int .i64 f,.bool true]) rfl bX ⟨res_of_cell bX rfl iU Tryz.underlying51 rfl ti_51,res_of_tmp bX rfl,res_of_tmp bX rfl,trivial⟩ i0
     ·have i1 := dP.2 (of_decide_eq_false hc)
      clear hc
      refine wp_skip ?_
      have i2 := bS.kp [(0,.string (Bs d)),(1,.int .i64 b),(6,pB c 0)] rfl
      exact then_normal ⟨i2,cx,i1⟩
   ·have i3 := dv.2 (of_decide_eq_false hc)
    clear hc
    refine wp_skip ?_
    have i4 := bP.kp [(0,.string (Bs d)),(1,.int .i64 b),(6,pB c 0)] rfl
    exact then_normal ⟨i4,bM,i3⟩
  ·intro mN a4 hm
   obtain ⟨fb,fc,i5⟩ := hm
   have i6 := h4 a4 i5
   refine then_normal (wp_seq (wp_block (wp_seq (wp_region_lit ?_))))
   refine sqv fb rfl (r_move (fb.get rfl)) fun _ fd => sqv fd rfl (r_move (fd.get rfl)) fun _ cF => ?_
   obtain ⟨i7,ff⟩ := i6
   refine sqv cF rfl (r_sindex (cF.get rfl) (cF.get rfl) tU9 i7) fun _ fg => sqv fg rfl (r_neq (fg.get rfl) rfl) fun _ fh => sqv fh rfl (r_assign (fh.get rfl)) fun _ i8 => sq_end ?_
   have bB := i8.kp [(0,.string (Bs d)),(1,.int .i64 b),(6,pB c 0),(56,.bool (decide (((d.getD b.toNat 0).toNat : Int) ≠ 60)))] rfl
   refine then_normal ?_
   refine wp_cond_split (bB.get rfl) (fun hc => ?_) (fun hc => ?_)
   ·have i9 := ff.1 (of_decide_eq_true hc)
    clear hc
    refine wp_seq (wp_region_lit ?_)
    refine sqv bB rfl (r_move (bB.get rfl)) fun _ fi => sqv fi rfl (r_move (fi.get rfl)) fun _ cH => ?_
    refine sq (opk_call cH rfl (r_call (args := #[.string (Bs d),.int .i64 b]) Tryz.func49 (by decide) rfl (map_arr (ml_cons (cH.get rfl) (ml_cons (cH.get rfl) ml_nil))) rfl) i9 fun mO mP cc fj _ ja mQ jb => ?_)
    obtain ⟨y,z,aa,ab,ad,a5,r_2_371,rfl,jc⟩ := jb
    have fk := fc.kept ja (.head _)
    refine sqv fj rfl (r_extract (fj.get rfl) rfl) fun _ fl => sqv fl rfl (r_extract (fl.get rfl) rfl) fun _ fm => sqv fm rfl (r_extract (fm.get rfl) rfl) fun _ cI => ?_
    refine sq (opk_store cI fk (r_store (vs := [.int .i64 y,.string (Bs z),.string (Bs aa),Sl.v ab,.bool ad]) (cI.get rfl) (cI.get rfl) rfl ti_51 fk rfl (ones_all _ rfl)) fun mR af jd jf fn => ?_)
    have jg : Box af c 51 [.int .i64 y,.string (Bs z),.string (Bs aa),Sl.v ab,.bool ad] := jf
    have jh : Chg [c] cc af := jd
    refine sqv fn rfl (r_assign (fn.get rfl)) fun _ fo => sqv fo rfl (r_assign (fo.get rfl)) fun _ ji => sq_end ?_
    have bY := ji.kp [(6,pB c 0),(7,.int .i64 a5),(8,.bool r_2_371)] rfl
    refine then_normal ?_
    refine wp_ret ?_
    refine block_ret ?_
    refine then_ret ?_
    have jj := jc af    jh
    exact res_all (vs := [.agg #[.int .i64 y,.string (Bs z),.string (Bs aa),Sl.v ab,.bool ad],.int .i64 a5,.bool r_2_371]) rfl bY ⟨res_of_cell bY rfl jg Tryz.underlying51 rfl ti_51,res_of_tmp bY rfl,res_of_tmp bY rfl,trivial⟩ jj
   ·have jk := ff.2 (of_decide_eq_false hc)
    clear hc
    refine wp_seq (wp_region_lit ?_)
    refine sqv bB rfl (r_move (bB.get rfl)) fun _ fp => sqv fp rfl (r_move (fp.get rfl)) fun _ fq => ?_
    obtain ⟨jl,jm⟩ := jk
    refine sqv fq rfl (r_addI (fq.get rfl) rfl jl) fun _ cJ => ?_
    refine sq (opk_call cJ rfl (r_call (args := #[.string (Bs d),.int .i64 (b + 1)]) Tryz.func50 (by decide) rfl (map_arr (ml_cons (cJ.get rfl) (ml_cons (cJ.get rfl) ml_nil))) rfl) jm fun mS mT cd fr _ jn mU jo => ?_)
    obtain ⟨a7,rfl,fs⟩ := jo
    have ft := fc.kept jn (.head _)
    refine sqv fr rfl (r_assign (fr.get rfl)) fun _ jp => sq_end ?_
    have bC := jp.kp [(0,.string (Bs d)),(1,.int .i64 b),(6,pB c 0),(67,.bool a7)] rfl
    refine then_normal ?_
    refine wp_cond_split (bC.get rfl) (fun hc => ?_) (fun hc => ?_)
    ·have jq := fs.1 hc
     clear hc
     refine wp_seq (wp_region_lit ?_)
     refine sqv bC rfl (r_move (bC.get rfl)) fun _ fu => sqv fu rfl (r_move (fu.get rfl)) fun _ fv => ?_
     obtain ⟨jr,js⟩ := jq
     refine sqv fv rfl (r_addI (fv.get rfl) rfl jr) fun _ cK => ?_
     refine sq (opk_call cK rfl (r_call (args := #[.string (Bs d),.int .i64 (b + 1),.int .i64 1]) Tryz.func51 (by decide) rfl (map_arr (ml_cons (cK.get rfl) (ml_cons (cK.get rfl) (ml_cons rfl ml_nil)))) rfl) js fun mV mX cf fx _ jt mY ju => ?_)
     obtain ⟨ag,ah,ai,aj,ak,a8,a9,rfl,jv⟩ := ju
     have fy := ft.kept jt (.head _)
     refine sqv fx rfl (r_extract (fx.get rfl) rfl) fun _ fz => sqv fz rfl (r_extract (fz.get rfl) rfl) fun _ fA => sqv fA rfl (r_extract (fA.get rfl) rfl) fun _ cL => ?_
     refine sq (opk_store cL fy (r_store (vs := [.int .i64 ag,.string (Bs ah),.string (Bs ai),Sl.v aj,.bool ak]) (cL.get rfl) (cL.get rfl) rfl ti_51 fy rfl (ones_all _ rfl)) fun mZ al jx jy fB => ?_)
     have jz : Box al c 51 [.int .i64 ag,.string (Bs ah),.string (Bs ai),Sl.v aj,.bool ak] := jy
     have jA : Chg [c] cf al := jx
     refine sqv fB rfl (r_assign (fB.get rfl)) fun _ fC => sqv fC rfl (r_assign (fC.get rfl)) fun _ jB => sq_end ?_
     have bZ := jB.kp [(6,pB c 0),(7,.int .i64 a8),(8,.bool a9)] rfl
     refine then_normal ?_
     refine wp_ret ?_
     refine block_ret ?_
     refine then_ret ?_
     have jC := jv al    jA
     exact res_all (vs := [.agg #[.int .i64 ag,.string (Bs ah),.string (Bs ai),Sl.v aj,.bool ak],.int .i64 a8,.bool a9]) rfl bZ ⟨res_of_cell bZ rfl jz Tryz.underlying51 rfl ti_51,res_of_tmp bZ rfl,res_of_tmp bZ rfl,trivial⟩ jC
    ·have jD := fs.2 hc
     clear hc
     refine wp_seq (wp_region_lit ?_)
     refine sqv bC rfl (r_move (bC.get rfl)) fun _ fD => sqv fD rfl (r_move (fD.get rfl)) fun _ cM => ?_
     refine sq (opk_call cM rfl (r_call (args := #[.string (Bs d),.int .i64 b,.string (Bs ([60,47] : Str))]) Tryz.func52 (by decide) rfl (map_arr (ml_cons (cM.get rfl) (ml_cons (cM.get rfl) (ml_cons rfl ml_nil)))) rfl) jD fun nc nd ba fF _ jF nf jG => ?_)
     obtain ⟨l,rfl,jH⟩ := jG
     have jI := ft.kept jF (.head _)
     refine sqv fF rfl (r_move (fF.get rfl)) fun _ fG => ?_
     refine sq (opk_gval fG rfl rfl (g := true) (e := l) rfl (fun hg => r_move (fG.get rfl)) fun ng fH _ => ?_)
     refine sq (opk_gval fH rfl rfl (g := true) (e := l) rfl (fun hg => r_move (fH.get rfl)) fun nh fJ _ => ?_)
     obtain ⟨jJ,jK⟩ := jH
     refine sq (opk_gval fJ rfl rfl (g := true) (e := l) rfl (fun hg => r_addI (cv_get (fJ.get rfl) hg) rfl (jJ (g_t hg))) fun ni cN _ => ?_)
     obtain ⟨bb,jL,jM⟩ := jK
     refine sq (opk_gcall cN rfl rfl (g := true) (e := l) rfl (fun hg => r_call (args := #[.string (Bs d),.int .i64 (b + 2)]) Tryz.func50 (by decide) rfl (map_arr (ml_cons (cv_get (cN.get rfl) hg) (ml_cons (cv_get (cN.get rfl) hg) ml_nil))) rfl) (fun hg => jL (g_t hg)) fun nj am cO _ cP => ?_)
     have fK := jI.ext cP
     have nk : Chg [] ba am := cP
     have fL := jM am cP
     refine sqv cO rfl (r_pick_and (g := (true && (l == true))) (cO.get rfl) (cO.get rfl) (fun he => g_mkt rfl he)) fun _ fM => sqv fM rfl (r_assign (fM.get rfl)) fun _ jN => sq_end ?_
     have bD := jN.kp [(0,.string (Bs d)),(1,.int .i64 b),(6,pB c 0),(79,.bool (l && bb))] rfl
     refine then_normal ?_
     refine wp_cond_split (bD.get rfl) (fun hc => ?_) (fun hc => ?_)
     ·have jO := fL.1 ⟨(b_and_t hc).1,(b_and_t hc).2⟩
      clear hc
      refine wp_seq (wp_region_lit ?_)
      refine sqv bD rfl (r_move (bD.get rfl)) fun _ fN => sqv fN rfl (r_move (fN.get rfl)) fun _ fO => ?_
      obtain ⟨jP,jQ⟩ := jO
      refine sqv fO rfl (r_addI (fO.get rfl) rfl jP) fun _ cQ => ?_
      refine sq (opk_call cQ rfl (r_call (args := #[.string (Bs d),.int .i64 (b + 2),.int .i64 2]) Tryz.func51 (by decide) rfl (map_arr (ml_cons (cQ.get rfl) (ml_cons (cQ.get rfl) (ml_cons rfl ml_nil)))) rfl) jQ fun nl nm cg fP _ jR nn jS => ?_)
      obtain ⟨an,ao,ap,aq,ar,bd,bf,rfl,jT⟩ := jS
      have fQ := fK.kept jR (.head _)
      refine sqv fP rfl (r_extract (fP.get rfl) rfl) fun _ fR => sqv fR rfl (r_extract (fR.get rfl) rfl) fun _ fS => sqv fS rfl (r_extract (fS.get rfl) rfl) fun _ cS => ?_
      refine sq (opk_store cS fQ (r_store (vs := [.int .i64 an,.string (Bs ao),.string (Bs ap),Sl.v aq,.bool ar]) (cS.get rfl) (cS.get rfl) rfl ti_51 fQ rfl (ones_all _ rfl)) fun no au jU jV fT => ?_)
      have jX : Box au c 51 [.int .i64 an,.string (Bs ao),.string (Bs ap),Sl.v aq,.bool ar] := jV
      have jY : Chg [c] cg au := jU
      refine sqv fT rfl (r_assign (fT.get rfl)) fun _ fU => sqv fU rfl (r_assign (fU.get rfl)) fun _ jZ => sq_end ?_
      have b0 := jZ.kp [(6,pB c 0),(7,.int .i64 bd),(8,.bool bf)] rfl
      refine then_normal ?_
      refine wp_ret ?_
      refine block_ret ?_
      refine then_ret ?_
      have ka := jT au    jY
      exact res_all (vs := [.agg #[.int .i64 an,.string (Bs ao),.string (Bs ap),Sl.v aq,.bool ar],.int .i64 bd,.bool bf]) rfl b0 ⟨res_of_cell b0 rfl jX Tryz.underlying51 rfl ti_51,res_of_tmp b0 rfl,res_of_tmp b0 rfl,trivial⟩ ka
     ·have kb := fL.2 ((b_and_f hc).imp (fun h => h) (fun h => h))
      clear hc
      refine wp_seq (wp_region_lit ?_)
      refine sqv bD rfl (r_move (bD.get rfl)) fun _ fV => sqv fV rfl (r_move (fV.get rfl)) fun _ cT => ?_
      refine sq (opk_call cT rfl (r_call (args := #[.string (Bs d),.int .i64 b,.string (Bs ([60,33,45,45] : Str))]) Tryz.func52 (by decide) rfl (map_arr (ml_cons (cT.get rfl) (ml_cons (cT.get rfl) (ml_cons rfl ml_nil)))) rfl) kb fun np nq ch fX _ kc nr kd => ?_)
      obtain ⟨bg,rfl,fY⟩ := kd
      have fZ := fK.kept kc (.head _)
      refine sqv fX rfl (r_assign (fX.get rfl)) fun _ kf => sq_end ?_
      have bF := kf.kp [(0,.string (Bs d)),(1,.int .i64 b),(6,pB c 0),(96,.bool bg)] rfl
      refine then_normal ?_
      refine wp_cond_split (bF.get rfl) (fun hc => ?_) (fun hc => ?_)
      ·have kg := fY.1 hc
       clear hc
       refine wp_seq (wp_region_lit ?_)
       refine sqv bF rfl (r_move (bF.get rfl)) fun _ f0 => sqv f0 rfl (r_move (f0.get rfl)) fun _ f1 => ?_
       obtain ⟨kh,ki⟩ := kg
       refine sqv f1 rfl (r_addI (f1.get rfl) rfl kh) fun _ cU => ?_
       refine sq (opk_call cU rfl (r_call (args := #[.string (Bs d),.int .i64 (b + 4)]) Tryz.func53 (by decide) rfl (map_arr (ml_cons (cU.get rfl) (ml_cons (cU.get rfl) ml_nil))) rfl) ki fun nt nu ci f2 _ kj nv kk => ?_)
       obtain ⟨av,ax,ay,az,aA,bi,bj,rfl,kl⟩ := kk
       have f3 := fZ.kept kj (.head _)
       refine sqv f2 rfl (r_extract (f2.get rfl) rfl) fun _ f4 => sqv f4 rfl (r_extract (f4.get rfl) rfl) fun _ f5 => sqv f5 rfl (r_extract (f5.get rfl) rfl) fun _ cY => ?_
       refine sq (opk_store cY f3 (r_store (vs := [.int .i64 av,.string (Bs ax),.string (Bs ay),Sl.v az,.bool aA]) (cY.get rfl) (cY.get rfl) rfl ti_51 f3 rfl (ones_all _ rfl)) fun nx aB km kn f6 => ?_)
       have ko : Box aB c 51 [.int .i64 av,.string (Bs ax),.string (Bs ay),Sl.v az,.bool aA] := kn
       have kq : Chg [c] ci aB := km
       refine sqv f6 rfl (r_assign (f6.get rfl)) fun _ f7 => sqv f7 rfl (r_assign (f7.get rfl)) fun _ kr => sq_end ?_
       have b1 := kr.kp [(6,pB c 0),(7,.int .i64 bi),(8,.bool bj)] rfl
       refine then_normal ?_
       refine wp_ret ?_
       refine block_ret ?_
       refine then_ret ?_
       have ks := kl aB    kq
       exact res_all (vs := [.agg #[.int .i64 av,.string (Bs ax),.string (Bs ay),Sl.v az,.bool aA],.int .i64 bi,.bool bj]) rfl b1 ⟨res_of_cell b1 rfl ko Tryz.underlying51 rfl ti_51,res_of_tmp b1 rfl,res_of_tmp b1 rfl,trivial⟩ ks
      ·have kt := fY.2 hc
       clear hc
       refine wp_seq (wp_region_lit ?_)
       refine sqv bF rfl (r_move (bF.get rfl)) fun _ f8 => sqv f8 rfl (r_move (f8.get rfl)) fun _ cZ => ?_
       refine sq (opk_call cZ rfl (r_call (args := #[.string (Bs d),.int .i64 b,.string (Bs ([60,33,100,111,99,116,121,112,101] : Str))]) Tryz.func52 (by decide) rfl (map_arr (ml_cons (cZ.get rfl) (ml_cons (cZ.get rfl) (ml_cons rfl ml_nil)))) rfl) kt fun ny nz cj f9 _ ku nA kv => ?_)
       obtain ⟨bk,rfl,ga⟩ := kv
       have gc := fZ.kept ku (.head _)
       refine sqv f9 rfl (r_assign (f9.get rfl)) fun _ kx => sq_end ?_
       have bG := kx.kp [(0,.string (Bs d)),(1,.int .i64 b),(6,pB c 0),(107,.bool bk)] rfl
       refine then_normal ?_
       refine wp_cond_split (bG.get rfl) (fun hc => ?_) (fun hc => ?_)
       ·have ky := ga.1 hc
        clear hc
        refine wp_seq (wp_region_lit ?_)
        refine sqv bG rfl (r_move (bG.get rfl)) fun _ gd => sqv gd rfl (r_move (gd.get rfl)) fun _ gf => ?_
        obtain ⟨kz,kA⟩ := ky
        refine sqv gf rfl (r_addI (gf.get rfl) rfl kz) fun _ c0 => ?_
        refine sq (opk_call c0 rfl (r_call (args := #[.string (Bs d),.int .i64 (b + 9)]) Tryz.func54 (by decide) rfl (map_arr (ml_cons (c0.get rfl) (ml_cons (c0.get rfl) ml_nil))) rfl) kA fun nB nC ck gg _ kB nD kC => ?_)
        obtain ⟨aC,aD,aG,aH,aI,bl,bo,rfl,kD⟩ := kC
        have gh := gc.kept kB (.head _)
        refine sqv gg rfl (r_extract (gg.get rfl) rfl) fun _ gj => sqv gj rfl (r_extract (gj.get rfl) rfl) fun _ gm => sqv gm rfl (r_extract (gm.get rfl) rfl) fun _ c1 => ?_
        refine sq (opk_store c1 gh (r_store (vs := [.int .i64 aC,.string (Bs aD),.string (Bs aG),Sl.v aH,.bool aI]) (c1.get rfl) (c1.get rfl) rfl ti_51 gh rfl (ones_all _ rfl)) fun nG aJ kF kG gq => ?_)
        have kH : Box aJ c 51 [.int .i64 aC,.string (Bs aD),.string (Bs aG),Sl.v aH,.bool aI] := kG
        have kI : Chg [c] ck aJ := kF
        refine sqv gq rfl (r_assign (gq.get rfl)) fun _ gu => sqv gu rfl (r_assign (gu.get rfl)) fun _ kJ => sq_end ?_
        have b2 := kJ.kp [(6,pB c 0),(7,.int .i64 bl),(8,.bool bo)] rfl
        refine then_normal ?_
        refine wp_ret ?_
        refine block_ret ?_
        refine then_ret ?_
        have kK := kD aJ    kI
        exact res_all (vs := [.agg #[.int .i64 aC,.string (Bs aD),.string (Bs aG),Sl.v aH,.bool aI],.int .i64 bl,.bool bo]) rfl b2 ⟨res_of_cell b2 rfl kH Tryz.underlying51 rfl ti_51,res_of_tmp b2 rfl,res_of_tmp b2 rfl,trivial⟩ kK
       ·have kL := ga.2 hc
        clear hc
        refine wp_seq (wp_region_lit ?_)
        refine sqv bG rfl (r_move (bG.get rfl)) fun _ gG => sqv gG rfl (r_move (gG.get rfl)) fun _ c2 => ?_
        refine sq (opk_call c2 rfl (r_call (args := #[.string (Bs d),.int .i64 b,.string (Bs ([60,47,62] : Str))]) Tryz.func52 (by decide) rfl (map_arr (ml_cons (c2.get rfl) (ml_cons (c2.get rfl) (ml_cons rfl ml_nil)))) rfl) kL fun nH nI bK gJ _ kM nJ kN => ?_)
        obtain ⟨bp,rfl,gU⟩ := kN
        have c3 := gc.kept kM (.head _)
        refine sqv gJ rfl (r_assign (gJ.get rfl)) fun _ kO => sq_end ?_
        have b3 := kO.kp [(0,.string (Bs d)),(1,.int .i64 b),(6,pB c 0),(118,.bool bp)] rfl
        refine then_normal ?_
        refine wp_cond_split (b3.get rfl) (fun hc => ?_) (fun hc => ?_)
        ·have kP := gU.1 hc
         clear hc
         refine wp_seq (wp_region_lit ?_)
         refine sqv b3 rfl (r_build (vs := #[]) (cells := #[.int .i64 0,.string (Bs []),.string (Bs []),Sl.v Sl.nil,.bool false]) (map_arr2 ml2_nil) ti_51 Tryz.underlying51 pl_51 (by kernel_rfl)) fun _ gY => sqv gY rfl (r_move (gY.get rfl)) fun _ g0 => ?_
         obtain ⟨kQ,kR⟩ := kP
         refine sqv g0 rfl (r_addI (g0.get rfl) rfl kQ) fun _ c4 => ?_
         refine sq (opk_store c4 c3 (r_store (vs := [.int .i64 0,.string (Bs []),.string (Bs []),Sl.v Sl.nil,.bool false]) (c4.get rfl) (c4.get rfl) rfl ti_51 c3 rfl (ones_all _ rfl)) fun nK aK kS kT g4 => ?_)
         have kU : Box aK c 51 [.int .i64 0,.string (Bs []),.string (Bs []),Sl.v Sl.nil,.bool false] := kT
         have kV : Chg [c] bK aK := kS
         refine sqv g4 rfl (r_assign (g4.get rfl)) fun _ kX => sqv kX rfl (r_assign rfl) fun _ kY => sq_end ?_
         have b4 := kY.kp [(6,pB c 0),(7,.int .i64 (b + 3)),(8,.bool false)] rfl
         refine then_normal ?_
         refine wp_ret ?_
         refine block_ret ?_
         refine then_ret ?_
         have kZ := kR aK    kV
         exact res_all (vs := [.agg #[.int .i64 0,.string (Bs []),.string (Bs []),Sl.v Sl.nil,.bool false],.int .i64 (b + 3),.bool false]) rfl b4 ⟨res_of_cell b4 rfl kU Tryz.underlying51 rfl ti_51,res_of_tmp b4 rfl,res_of_tmp b4 rfl,trivial⟩ kZ
        ·have la := gU.2 hc
         clear hc
         refine wp_seq (wp_seq (wp_region_lit ?_))
         refine sqv b3 rfl (r_move (b3.get rfl)) fun _ g5 => sqv g5 rfl (r_move (g5.get rfl)) fun _ c5 => ?_
         refine sq (opk_call c5 rfl (r_call (args := #[.string (Bs d),.int .i64 b,.string (Bs ([60,33] : Str))]) Tryz.func52 (by decide) rfl (map_arr (ml_cons (c5.get rfl) (ml_cons (c5.get rfl) (ml_cons rfl ml_nil)))) rfl) la fun nL nM cl g6 _ lb nN lc => ?_)
         obtain ⟨q,rfl,ld⟩ := lc
         have g7 := c3.kept lb (.head _)
         refine sqv g6 rfl (r_assign (g6.get rfl)) fun _ lf => sq_end ?_
         have b5 := lf.kp [(0,.string (Bs d)),(1,.int .i64 b),(6,pB c 0),(125,.bool q)] rfl
         refine then_normal ?_
         obtain ⟨bq,g8,lg⟩ := ld
         refine wp_meet (fun a w => ∃ r : Bool,Ag 160 a [(0,.string (Bs d)),(1,.int .i64 b),(6,pB c 0),(125,.bool r)] ∧ Box w c 51 [.int .i64 0,.string (Bs []),.string (Bs []),Sl.v Sl.nil,.bool false] ∧ bq r w) ?_ ?_
         ·refine wp_cond_split (b5.get rfl) (fun hc => ?_) (fun hc => ?_)
          ·have lh := g8.1 hc
           clear hc
           refine wp_skip ?_
           have li := b5.kp [(0,.string (Bs d)),(1,.int .i64 b),(6,pB c 0),(125,.bool q)] rfl
           exact then_normal ⟨q,li,g7,lh⟩
          ·have lj := g8.2 hc
           clear hc
           refine wp_region_lit ?_
           refine sqv b5 rfl (r_move (b5.get rfl)) fun _ g9 => sqv g9 rfl (r_move (g9.get rfl)) fun _ c6 => ?_
           refine sq (opk_call c6 rfl (r_call (args := #[.string (Bs d),.int .i64 b,.string (Bs ([60,47] : Str))]) Tryz.func52 (by decide) rfl (map_arr (ml_cons (c6.get rfl) (ml_cons (c6.get rfl) (ml_cons rfl ml_nil)))) rfl) lj fun nO nP dh ha _ lk nQ ll => ?_)
           obtain ⟨j,rfl,lm⟩ := ll
           have ln := g7.kept lk (.head _)
           refine sqv ha rfl (r_move (ha.get rfl)) fun _ hb => ?_
           refine sq (opk_gval hb rfl rfl (g := true) (e := j) rfl (fun hg => r_move (hb.get rfl)) fun nR hd _ => ?_)
           obtain ⟨lo,lp⟩ := lm
           refine sq (opk_gval hd rfl rfl (g := true) (e := j) rfl (fun hg => r_addI (cv_get (hd.get rfl) hg) rfl (lo (g_t hg))) fun nS hf _ => ?_)
           refine sq (opk_gval hf rfl rfl (g := true) (e := j) rfl (fun hg => r_move (hf.get rfl)) fun nU hh _ => ?_)
           refine sq (opk_gval hh rfl rfl (g := true) (e := j) rfl (fun hg => r_slen (cv_get (hh.get rfl) hg) tU9) fun nV c7 _ => ?_)
           refine sq (opk_gval c7 rfl rfl (g := true) (e := j) rfl (fun hg => r_lss (cv_get (c7.get rfl) hg) (cv_get (c7.get rfl) hg)) fun nX c8 _ => ?_)
           refine sqv c8 rfl (r_pick_and (g := (true && (j == true))) (c8.get rfl) (c8.get rfl) (fun he => g_mkt rfl he)) fun _ hi => sqv hi rfl (r_assign (hi.get rfl)) fun _ lq => sq_end ?_
           have lr := lq.kp [(0,.string (Bs d)),(1,.int .i64 b),(6,pB c 0),(125,.bool (j && (decide ((b + 2) < (d.length : Int)))))] rfl
           have ls := lr.kp [(0,.string (Bs d)),(1,.int .i64 b),(6,pB c 0),(125,.bool (j && (decide ((b + 2) < (d.length : Int)))))] rfl
           exact then_normal ⟨(j && (decide ((b + 2) < (d.length : Int)))),ls,ln,lp⟩
         ·intro nY bs hm
          obtain ⟨r,bH,hj,lu⟩ := hm
          have hk := lg r bs lu
          refine then_normal ?_
          refine wp_cond_split (bH.get rfl) (fun hc => ?_) (fun hc => ?_)
          ·have lv := hk.1 hc
           clear hc
           refine wp_seq (wp_region_lit ?_)
           refine sqv bH rfl (r_move (bH.get rfl)) fun _ hl => sqv hl rfl (r_move (hl.get rfl)) fun _ hn => ?_
           obtain ⟨lx,ly⟩ := lv
           refine sqv hn rfl (r_addI (hn.get rfl) rfl lx) fun _ c9 => ?_
           refine sq (opk_call c9 rfl (r_call (args := #[.string (Bs d),.int .i64 (b + 2)]) Tryz.func55 (by decide) rfl (map_arr (ml_cons (c9.get rfl) (ml_cons (c9.get rfl) ml_nil))) rfl) ly fun nZ n0 cm ho _ lz n1 lA => ?_)
           obtain ⟨aL,aM,aN,aO,aP,bt,bu,rfl,lB⟩ := lA
           have hp := hj.kept lz (.head _)
           refine sqv ho rfl (r_extract (ho.get rfl) rfl) fun _ hq => sqv hq rfl (r_extract (hq.get rfl) rfl) fun _ hr => sqv hr rfl (r_extract (hr.get rfl) rfl) fun _ da => ?_
           refine sq (opk_store da hp (r_store (vs := [.int .i64 aL,.string (Bs aM),.string (Bs aN),Sl.v aO,.bool aP]) (da.get rfl) (da.get rfl) rfl ti_51 hp rfl (ones_all _ rfl)) fun n2 aQ lC lD hs => ?_)
           have lF : Box aQ c 51 [.int .i64 aL,.string (Bs aM),.string (Bs aN),Sl.v aO,.bool aP] := lD
           have lG : Chg [c] cm aQ := lC
           refine sqv hs rfl (r_assign (hs.get rfl)) fun _ ht => sqv ht rfl (r_assign (ht.get rfl)) fun _ lH => sq_end ?_
           have b6 := lH.kp [(6,pB c 0),(7,.int .i64 bt),(8,.bool bu)] rfl
           refine then_normal ?_
           refine wp_ret ?_
           refine block_ret ?_
           refine then_ret ?_
           have lI := lB aQ    lG
           exact res_all (vs := [.agg #[.int .i64 aL,.string (Bs aM),.string (Bs aN),Sl.v aO,.bool aP],.int .i64 bt,.bool bu]) rfl b6 ⟨res_of_cell b6 rfl lF Tryz.underlying51 rfl ti_51,res_of_tmp b6 rfl,res_of_tmp b6 rfl,trivial⟩ lI
          ·have lJ := hk.2 hc
           clear hc
           refine wp_seq (wp_region_lit ?_)
           refine sqv bH rfl (r_move (bH.get rfl)) fun _ hu => sqv hu rfl (r_move (hu.get rfl)) fun _ db => ?_
           refine sq (opk_call db rfl (r_call (args := #[.string (Bs d),.int .i64 b,.string (Bs ([60,63] : Str))]) Tryz.func52 (by decide) rfl (map_arr (ml_cons (db.get rfl) (ml_cons (db.get rfl) (ml_cons rfl ml_nil)))) rfl) lJ fun n3 n4 bL hv _ lK n5 lL => ?_)
           obtain ⟨bv,rfl,hx⟩ := lL
           have dc := hj.kept lK (.head _)
           refine sqv hv rfl (r_assign (hv.get rfl)) fun _ lM => sq_end ?_
           have b7 := lM.kp [(0,.string (Bs d)),(1,.int .i64 b),(6,pB c 0),(146,.bool bv)] rfl
           refine then_normal ?_
           refine wp_cond_split (b7.get rfl) (fun hc => ?_) (fun hc => ?_)
           ·have lN := hx.1 hc
            clear hc
            refine wp_seq (wp_region_lit ?_)
            refine sqv b7 rfl (r_move (b7.get rfl)) fun _ hy => sqv hy rfl (r_move (hy.get rfl)) fun _ hz => ?_
            obtain ⟨lO,lP⟩ := lN
            refine sqv hz rfl (r_addI (hz.get rfl) rfl lO) fun _ dd => ?_
            refine sq (opk_call dd rfl (r_call (args := #[.string (Bs d),.int .i64 (b + 1)]) Tryz.func55 (by decide) rfl (map_arr (ml_cons (dd.get rfl) (ml_cons (dd.get rfl) ml_nil))) rfl) lP fun n6 n7 cn hA _ lQ n8 lR => ?_)
            obtain ⟨aR,aS,aU,aV,aX,bx,bz,rfl,lS⟩ := lR
            have hB := dc.kept lQ (.head _)
            refine sqv hA rfl (r_extract (hA.get rfl) rfl) fun _ hC => sqv hC rfl (r_extract (hC.get rfl) rfl) fun _ hD => sqv hD rfl (r_extract (hD.get rfl) rfl) fun _ df => ?_
            refine sq (opk_store df hB (r_store (vs := [.int .i64 aR,.string (Bs aS),.string (Bs aU),Sl.v aV,.bool aX]) (df.get rfl) (df.get rfl) rfl ti_51 hB rfl (ones_all _ rfl)) fun n9 aY lU lV hF => ?_)
            have lX : Box aY c 51 [.int .i64 aR,.string (Bs aS),.string (Bs aU),Sl.v aV,.bool aX] := lV
            have lY : Chg [c] cn aY := lU
            refine sqv hF rfl (r_assign (hF.get rfl)) fun _ hG => sqv hG rfl (r_assign (hG.get rfl)) fun _ lZ => sq_end ?_
            have b8 := lZ.kp [(6,pB c 0),(7,.int .i64 bx),(8,.bool bz)] rfl
            refine then_normal ?_
            refine wp_ret ?_
            refine block_ret ?_
            refine then_ret ?_
            have ma := lS aY    lY
            exact res_all (vs := [.agg #[.int .i64 aR,.string (Bs aS),.string (Bs aU),Sl.v aV,.bool aX],.int .i64 bx,.bool bz]) rfl b8 ⟨res_of_cell b8 rfl lX Tryz.underlying51 rfl ti_51,res_of_tmp b8 rfl,res_of_tmp b8 rfl,trivial⟩ ma
           ·have mb := hx.2 hc
            clear hc
            refine wp_skip ?_
            refine block_normal ?_
            refine then_normal (wp_seq (wp_region_lit ?_))
            refine sqv b7 rfl (r_build (vs := #[(0,.int .i64 3),(2,.string (Bs ([60] : Str)))]) (cells := #[.int .i64 3,.string (Bs []),.string (Bs ([60] : Str)),Sl.v Sl.nil,.bool false]) (map_arr2 (ml2_cons rfl (ml2_cons rfl (ml2_nil)))) ti_51 Tryz.underlying51 pl_51 (by kernel_rfl)) fun _ hH => sqv hH rfl (r_move (hH.get rfl)) fun _ hI => ?_
            obtain ⟨mc,md⟩ := mb
            refine sqv hI rfl (r_addI (hI.get rfl) rfl mc) fun _ dg => ?_
            refine sq (opk_store dg dc (r_store (vs := [.int .i64 3,.string (Bs []),.string (Bs ([60] : Str)),Sl.v Sl.nil,.bool false]) (dg.get rfl) (dg.get rfl) rfl ti_51 dc rfl (ones_all _ rfl)) fun oa aZ mf mg hJ => ?_)
            have mh : Box aZ c 51 [.int .i64 3,.string (Bs []),.string (Bs ([60] : Str)),Sl.v Sl.nil,.bool false] := mg
            have mi : Chg [c] bL aZ := mf
            refine sqv hJ rfl (r_assign (hJ.get rfl)) fun _ mj => sqv mj rfl (r_assign rfl) fun _ mk => sq_end ?_
            have b9 := mk.kp [(6,pB c 0),(7,.int .i64 (b + 1)),(8,.bool true)] rfl
            refine then_normal ?_
            refine wp_ret ?_
            have ml := md aZ    mi
            exact res_all (vs := [.agg #[.int .i64 3,.string (Bs []),.string (Bs ([60] : Str)),Sl.v Sl.nil,.bool false],.int .i64 (b + 1),.bool true]) rfl b9 ⟨res_of_cell b9 rfl mh Tryz.underlying51 rfl ti_51,res_of_tmp b9 rfl,res_of_tmp b9 rfl,trivial⟩ ml
def ref10_text.vc (b : Str) (d : Int) (R : Value → World → Prop) (w : World) : Prop :=
∀ (n : World) (i : Nat),New w i n → Chg [] w n →
∃ (r : Int → World → Prop) (u : Int → World → Nat),
r d n ∧
(∀ (c : Int) (p : World),r c p →
∀ (m : World),Chg [] p m →
(((c < (b.length : Int))) → (0 : Int) ≤ c ∧ c < (b.length : Int)) ∧
((((c < (b.length : Int)) ∧ (((b.getD c.toNat 0).toNat : Int) ≠ 60))) → (0 : Int) ≤ c ∧ c < (b.length : Int)) ∧
∃ (j : Bool),((((c < (b.length : Int)) ∧ (((b.getD c.toNat 0).toNat : Int) ≠ 60))) → ∀ w' : World,Ext m w' → Calls Tryz.prog 79 #[.int .u8 ((b.getD c.toNat 0).toNat : Int)] w' (Ret fun v w'' => Ext w' w'' ∧ v = .bool j)) ∧
((((c < (b.length : Int)) ∧ (((b.getD c.toNat 0).toNat : Int) ≠ 60))) → (0 : Int) ≤ d ∧ d < (b.length : Int)) ∧
∃ (k : Bool),((((c < (b.length : Int)) ∧ (((b.getD c.toNat 0).toNat : Int) ≠ 60))) → ∀ w' : World,Ext m w' → Calls Tryz.prog 79 #[.int .u8 ((b.getD d.toNat 0).toNat : Int)] w' (Ret fun v w'' => Ext w' w'' ∧ v = .bool k)) ∧
((((c < (b.length : Int)) ∧ (((b.getD c.toNat 0).toNat : Int) ≠ 60)) ∧ ((j == k) = true)) →
(I64 (c + 1)) ∧
∀ (l : World),Chg [] m l →
r (c + 1) l ∧ u (c + 1) l < u c p) ∧
((((¬ (c < (b.length : Int))) ∨ (¬ (((b.getD c.toNat 0).toNat : Int) ≠ 60))) ∨ ((j == k) = false)) →
((0 : Int) ≤ d ∧ (d : Int) ≤ c ∧ c ≤ (b.length : Int)) ∧
∀ (l : World),Chg [] m l →
CallK Tryz.prog 48 #[.string (Bs ((List.drop d.toNat b).take (c.toNat - d.toNat))),.bool false] l [i] (fun v aa => ∃ (o : Str),v = .string (Bs o) ∧
∀ (q : World),Chg [i] aa q →
R (.tuple #[.agg #[.int .i64 3,.string (Bs []),.string (Bs o),Sl.v Sl.nil,.bool false],.int .i64 c,.bool true]) q)))
theorem ref10_text.ok (b : Str) (d : Int) {R : Value → World → Prop} {w : World} (ad : ref10_text.vc b d R w) : Calls Tryz.prog 49 #[.string (Bs b),.int .i64 d] w (Ret R) := by
 refine enter [.string (Bs b),.int .i64 d] Tryz.func49 rfl Tryz.ntmps49 rfl ?_
 intro a0 aB
 unfold ref10_text.vc at ad
 refine wp_seq (wp_region_lit ?_)
 refine sq (opk_new (fun B => .pointer (some ⟨B,0,none⟩)) aB rfl (r_alloc (cs := [.int .i64 0,.string (Bs []),.string (Bs []),Sl.v Sl.nil,.bool false]) ti_51 rfl) fun a5 n i aC aD aG aH _ => ?_)
 have aI : New w i n := aD
 have aJ : Chg [] w n := aC
 refine sqv aH rfl (r_assign rfl) fun _ aK => sqv aK rfl (r_assign rfl) fun _ aL => sq_end ?_
 have af := aL.kp [(0,.string (Bs b)),(1,.int .i64 d),(4,pB i 0)] rfl
 refine then_normal (wp_seq (wp_region_lit ?_))
 refine sqv af rfl (r_move (af.get rfl)) fun _ ah => sqv ah rfl (r_assign (ah.get rfl)) fun _ aM => sq_end ?_
 have aN := aM.kp [(0,.string (Bs b)),(1,.int .i64 d),(4,pB i 0),(7,.int .i64 d)] rfl
 refine then_normal (wp_seq (wp_block ?_))
 have aO := ad n i aI  aJ
 obtain ⟨r,u,aP,aQ⟩ := aO
 refine wp_loop_st (σ := Int × World) (fun s a w => Ag 39 a [(0,.string (Bs b)),(1,.int .i64 d),(4,pB i 0),(7,.int .i64 s.1)] ∧ Box w i 51 [.int .i64 0,.string (Bs []),.string (Bs []),Sl.v Sl.nil,.bool false] ∧ w = s.2 ∧ r s.1 s.2) (fun s => u s.1 s.2) (d,n) ⟨aN.kp [(0,.string (Bs b)),(1,.int .i64 d),(4,pB i 0),(7,.int .i64 d)] rfl,aG,rfl,aP⟩ ?_
 rintro ⟨c,p⟩ bJ w_ ⟨f,aR,hw_,aS⟩
 have hw_ : p = w_ := hw_.symm
 subst hw_
 have aU := aQ c _ aS
 refine wp_seq (wp_seq ?_)
 refine draw' (by kernel_rfl) fun m ai => ?_
 have aV := aR.ext ai
 have aX : Chg [] p m := ai
 have aY := aU m    aX
 obtain ⟨aZ,ht114⟩ := aY
 obtain ⟨a1,a2⟩ := ht114
 obtain ⟨j,a3,a4⟩ := a2
 obtain ⟨hS137,a6⟩ := a4
 obtain ⟨k,a7,aj⟩ := a6
 refine par (D := [[],[],[1],[0,1,2],[0,1,2,3],[0,1,2,3,4],[0,1,2,3,4],[0,1,2,3,4,5,6],[0,1,2,3,4,5,6,7],[0,1,2,3,4,5,6,7,8],[0,1,2,3,4,5,6,7,8,9],[0,1,2,3,4,5,6,7,8,9,10],[0,1,2,3,4,5,6,7,8,9,10],[0,1,2,3,4,5,6,7,8,9,10,11,12],[0,1,2,3,4,5,6,7,8,9,10,11,12,13],[0,1,2,3,4,5,6,7,8,9,10],[0,1,2,3,4,5,6,7,8,9,10],[0,1,2,3,4,5,6,7,8,9,10,15,16],[0,1,2,3,4,5,6,7,8,9,10,11,12,13,14,15,16,17],[0,1,2,3,4,5,6,7,8,9,10,11,12,13,14,15,16,17,18],[0,1,2,3,4,5,6,7,8,9,10,11,12,13,14,15,16,17,18,19]]) (S := [0,1,2,3,4,5,6,7,8,9,10,11,12,13,14,15,16,17,18,19,20]) (F := []) (V := VL [(0,fun v _ => v = .int .i64 c),(1,fun v _ => v = .string (Bs b)),(2,fun v _ => v = .int .i64 (b.length : Int)),(3,fun v _ => v = .bool (decide (c < (b.length : Int)))),(4,fun v _ => v = .bool (decide (c < (b.length : Int)))),(5,fun v _ => v = cV (true && ((decide (c < (b.length : Int))) == true)) (.string (Bs b))),(6,fun v _ => v = cV (true && ((decide (c < (b.length : Int))) == true)) (.int .i64 c)),(7,fun v _ => v = cV (true && ((decide (c < (b.length : Int))) == true)) (.int .u8 ((b.getD c.toNat 0).toNat : Int))),(8,fun v _ => v = cV (true && ((decide (c < (b.length : Int))) == true)) (.bool (decide (((b.getD c.toNat 0).toNat : Int) ≠ 60)))),(9,fun v _ => v = .bool ((decide (c < (b.length : Int))) && (decide (((b.getD c.toNat 0).toNat : Int) ≠ 60)))),(10,fun v _ => v = .bool ((decide (c < (b.length : Int))) && (decide (((b.getD c.toNat 0).toNat : Int) ≠ 60)))),(11,fun v _ => v = cV (true && (((decide (c < (b.length : Int))) && (decide (((b.getD c.toNat 0).toNat : Int) ≠ 60))) == true)) (.string (Bs b))),(12,fun v _ => v = cV (true && (((decide (c < (b.length : Int))) && (decide (((b.getD c.toNat 0).toNat : Int) ≠ 60))) == true)) (.int .i64 c)),(13,fun v _ => v = cV (true && (((decide (c < (b.length : Int))) && (decide (((b.getD c.toNat 0).toNat : Int) ≠ 60))) == true)) (.int .u8 ((b.getD c.toNat 0).toNat : Int))),(14,fun v _ => v = cV (true && (((decide (c < (b.length : Int))) && (decide (((b.getD c.toNat 0).toNat : Int) ≠ 60))) == true)) (.bool j)),(15,fun v _ => v = cV (true && (((decide (c < (b.length : Int))) && (decide (((b.getD c.toNat 0).toNat : Int) ≠ 60))) == true)) (.string (Bs b))),(16,fun v _ => v = cV (true && (((decide (c < (b.length : Int))) && (decide (((b.getD c.toNat 0).toNat : Int) ≠ 60))) == true)) (.int .i64 d)),(17,fun v _ => v = cV (true && (((decide (c < (b.length : Int))) && (decide (((b.getD c.toNat 0).toNat : Int) ≠ 60))) == true)) (.int .u8 ((b.getD d.toNat 0).toNat : Int))),(18,fun v _ => v = cV (true && (((decide (c < (b.length : Int))) && (decide (((b.getD c.toNat 0).toNat : Int) ≠ 60))) == true)) (.bool k)),(19,fun v _ => v = cV (true && (((decide (c < (b.length : Int))) && (decide (((b.getD c.toNat 0).toNat : Int) ≠ 60))) == true)) (.bool (j == k))),(20,fun v _ => v = .bool (((decide (c < (b.length : Int))) && (decide (((b.getD c.toNat 0).toNat : Int) ≠ 60))) && (j == k)))]) f (by kernel_rfl) ⟨fun _ _ _ _ h => h,fun _ _ _ _ h => h,fun _ _ _ _ h => h,fun _ _ _ _ h => h,fun _ _ _ _ h => h,fun _ _ _ _ h => h,fun _ _ _ _ h => h,fun _ _ _ _ h => h,fun _ _ _ _ h => h,fun _ _ _ _ h => h,fun _ _ _ _ h => h,fun _ _ _ _ h => h,fun _ _ _ _ h => h,fun _ _ _ _ h => h,fun _ _ _ _ h => h,fun _ _ _ _ h => h,fun _ _ _ _ h => h,fun _ _ _ _ h => h,fun _ _ _ _ h => h,fun _ _ _ _ h => h,fun _ _ _ _ h => h,trivial⟩ ⟨?_,?_,?_,?_,?_,?_,?_,?_,?_,?_,?_,?_,?_,?_,?_,?_,?_,?_,?_,?_,?_,trivial⟩ ?_
 ·intro a w hT
  have hAp := hT.ag f [(7,.int .i64 c)] ⟨rfl,trivial⟩ (by kernel_rfl)
  exact ovr hAp rfl (r_move (hAp.get rfl)) fun _ => Eq.refl _
 ·intro a w hT
  have hAp := hT.ag f [(0,.string (Bs b))] ⟨rfl,trivial⟩ (by kernel_rfl)
  exact ovr hAp rfl (r_move (hAp.get rfl)) fun _ => Eq.refl _
 ·intro a w hT
  have hAp := hT.ag f [] trivial (by kernel_rfl)
  have hAp := hAp.add (t := 10) (v := .string (Bs b)) (hT.vals 1 rfl 10 rfl)
  exact ovr hAp rfl (r_slen (hAp.get rfl) tU9) fun _ => Eq.refl _
 ·intro a w hT
  have hAp := hT.ag f [] trivial (by kernel_rfl)
  have hAp := hAp.add (t := 9) (v := .int .i64 c) (hT.vals 0 rfl 9 rfl)
  have hAp := hAp.add (t := 11) (v := .int .i64 (b.length : Int)) (hT.vals 2 rfl 11 rfl)
  exact ovr hAp rfl (r_lss (hAp.get rfl) (hAp.get rfl)) fun _ => Eq.refl _
 ·intro a w hT
  have hAp := hT.ag f [] trivial (by kernel_rfl)
  have hAp := hAp.add (t := 12) (v := .bool (decide (c < (b.length : Int)))) (hT.vals 3 rfl 12 rfl)
  exact ovr hAp rfl (r_move (hAp.get rfl)) fun _ => Eq.refl _
 ·intro a w hT
  have hAp := hT.ag f [(0,.string (Bs b))] ⟨rfl,trivial⟩ (by kernel_rfl)
  have hAp := hAp.add (t := 13) (v := .bool (decide (c < (b.length : Int)))) (hT.vals 4 rfl 13 rfl)
  exact opk_gval hAp rfl rfl (g := true) (e := (decide (c < (b.length : Int)))) rfl (fun hg => r_move (hAp.get rfl)) fun _ _ e => ⟨_,e,Chg.refl _ _,fun _ => Eq.refl _⟩
 ·intro a w hT
  have hAp := hT.ag f [(7,.int .i64 c)] ⟨rfl,trivial⟩ (by kernel_rfl)
  have hAp := hAp.add (t := 13) (v := .bool (decide (c < (b.length : Int)))) (hT.vals 4 rfl 13 rfl)
  exact opk_gval hAp rfl rfl (g := true) (e := (decide (c < (b.length : Int)))) rfl (fun hg => r_move (hAp.get rfl)) fun _ _ e => ⟨_,e,Chg.refl _ _,fun _ => Eq.refl _⟩
 ·intro a w hT
  have hAp := hT.ag f [] trivial (by kernel_rfl)
  have hAp := hAp.add (t := 13) (v := .bool (decide (c < (b.length : Int)))) (hT.vals 4 rfl 13 rfl)
  have hAp := hAp.add (t := 14) (v := cV (true && ((decide (c < (b.length : Int))) == true)) (.string (Bs b))) (hT.vals 5 rfl 14 rfl)
  have hAp := hAp.add (t := 15) (v := cV (true && ((decide (c < (b.length : Int))) == true)) (.int .i64 c)) (hT.vals 6 rfl 15 rfl)
  exact opk_gval hAp rfl rfl (g := true) (e := (decide (c < (b.length : Int)))) rfl (fun hg => r_sindex (cv_get (hAp.get rfl) hg) (cv_get (hAp.get rfl) hg) tU9 (aZ (of_decide_eq_true (g_t hg)))) fun _ _ e => ⟨_,e,Chg.refl _ _,fun _ => Eq.refl _⟩
 ·intro a w hT
  have hAp := hT.ag f [] trivial (by kernel_rfl)
  have hAp := hAp.add (t := 13) (v := .bool (decide (c < (b.length : Int)))) (hT.vals 4 rfl 13 rfl)
  have hAp := hAp.add (t := 16) (v := cV (true && ((decide (c < (b.length : Int))) == true)) (.int .u8 ((b.getD c.toNat 0).toNat : Int))) (hT.vals 7 rfl 16 rfl)
  exact opk_gval hAp rfl rfl (g := true) (e := (decide (c < (b.length : Int)))) rfl (fun hg => r_neq (cv_get (hAp.get rfl) hg) rfl) fun _ _ e => ⟨_,e,Chg.refl _ _,fun _ => Eq.refl _⟩
 ·intro a w hT
  have hAp := hT.ag f [] trivial (by kernel_rfl)
  have hAp := hAp.add (t := 13) (v := .bool (decide (c < (b.length : Int)))) (hT.vals 4 rfl 13 rfl)
  have hAp := hAp.add (t := 17) (v := cV (true && ((decide (c < (b.length : Int))) == true)) (.bool (decide (((b.getD c.toNat 0).toNat : Int) ≠ 60)))) (hT.vals 8 rfl 17 rfl)
  exact ovr hAp rfl (r_pick_and (g := (true && ((decide (c < (b.length : Int))) == true))) (hAp.get rfl) (hAp.get rfl) (fun he => g_mkt rfl he)) fun _ => Eq.refl _
 ·intro a w hT
  have hAp := hT.ag f [] trivial (by kernel_rfl)
  have hAp := hAp.add (t := 18) (v := .bool ((decide (c < (b.length : Int))) && (decide (((b.getD c.toNat 0).toNat : Int) ≠ 60)))) (hT.vals 9 rfl 18 rfl)
  exact ovr hAp rfl (r_move (hAp.get rfl)) fun _ => Eq.refl _
 ·intro a w hT
  have hAp := hT.ag f [(0,.string (Bs b))] ⟨rfl,trivial⟩ (by kernel_rfl)
  have hAp := hAp.add (t := 19) (v := .bool ((decide (c < (b.length : Int))) && (decide (((b.getD c.toNat 0).toNat : Int) ≠ 60)))) (hT.vals 10 rfl 19 rfl)
  exact opk_gval hAp rfl rfl (g := true) (e := ((decide (c < (b.length : Int))) && (decide (((b.getD c.toNat 0).toNat : Int) ≠ 60)))) rfl (fun hg => r_move (hAp.get rfl)) fun _ _ e => ⟨_,e,Chg.refl _ _,fun _ => Eq.refl _⟩
 ·intro a w hT
  have hAp := hT.ag f [(7,.int .i64 c)] ⟨rfl,trivial⟩ (by kernel_rfl)
  have hAp := hAp.add (t := 19) (v := .bool ((decide (c < (b.length : Int))) && (decide (((b.getD c.toNat 0).toNat : Int) ≠ 60)))) (hT.vals 10 rfl 19 rfl)
  exact opk_gval hAp rfl rfl (g := true) (e := ((decide (c < (b.length : Int))) && (decide (((b.getD c.toNat 0).toNat : Int) ≠ 60)))) rfl (fun hg => r_move (hAp.get rfl)) fun _ _ e => ⟨_,e,Chg.refl _ _,fun _ => Eq.refl _⟩
 ·intro a w hT
  have hAp := hT.ag f [] trivial (by kernel_rfl)
  have hAp := hAp.add (t := 19) (v := .bool ((decide (c < (b.length : Int))) && (decide (((b.getD c.toNat 0).toNat : Int) ≠ 60)))) (hT.vals 10 rfl 19 rfl)
  have hAp := hAp.add (t := 20) (v := cV (true && (((decide (c < (b.length : Int))) && (decide (((b.getD c.toNat 0).toNat : Int) ≠ 60))) == true)) (.string (Bs b))) (hT.vals 11 rfl 20 rfl)
  have hAp := hAp.add (t := 21) (v := cV (true && (((decide (c < (b.length : Int))) && (decide (((b.getD c.toNat 0).toNat : Int) ≠ 60))) == true)) (.int .i64 c)) (hT.vals 12 rfl 21 rfl)
  exact opk_gval hAp rfl rfl (g := true) (e := ((decide (c < (b.length : Int))) && (decide (((b.getD c.toNat 0).toNat : Int) ≠ 60)))) rfl (fun hg => r_sindex (cv_get (hAp.get rfl) hg) (cv_get (hAp.get rfl) hg) tU9 (a1 ⟨(of_decide_eq_true (b_and_t (g_t hg)).1),(of_decide_eq_true (b_and_t (g_t hg)).2)⟩)) fun _ _ e => ⟨_,e,Chg.refl _ _,fun _ => Eq.refl _⟩
 ·intro a w hT
  have hAp := hT.ag f [] trivial (by kernel_rfl)
  have hAp := hAp.add (t := 19) (v := .bool ((decide (c < (b.length : Int))) && (decide (((b.getD c.toNat 0).toNat : Int) ≠ 60)))) (hT.vals 10 rfl 19 rfl)
  have hAp := hAp.add (t := 22) (v := cV (true && (((decide (c < (b.length : Int))) && (decide (((b.getD c.toNat 0).toNat : Int) ≠ 60))) == true)) (.int .u8 ((b.getD c.toNat 0).toNat : Int))) (hT.vals 13 rfl 22 rfl)
  exact opk_gcall hAp rfl rfl (g := true) (e := ((decide (c < (b.length : Int))) && (decide (((b.getD c.toNat 0).toNat : Int) ≠ 60)))) rfl (fun hg => r_call (args := #[.int .u8 ((b.getD c.toNat 0).toNat : Int)]) Tryz.func79 (by decide) rfl (map_arr (ml_cons (cv_get (hAp.get rfl) hg) ml_nil)) rfl) (fun hg => a3 ⟨(of_decide_eq_true (b_and_t (g_t hg)).1),(of_decide_eq_true (b_and_t (g_t hg)).2)⟩ w hT.chg) fun _ _ _ e hE => ⟨_,e,hE,fun _ => Eq.refl _⟩
 ·intro a w hT
  have hAp := hT.ag f [(0,.string (Bs b))] ⟨rfl,trivial⟩ (by kernel_rfl)
  have hAp := hAp.add (t := 19) (v := .bool ((decide (c < (b.length : Int))) && (decide (((b.getD c.toNat 0).toNat : Int) ≠ 60)))) (hT.vals 10 rfl 19 rfl)
  exact opk_gval hAp rfl rfl (g := true) (e := ((decide (c < (b.length : Int))) && (decide (((b.getD c.toNat 0).toNat : Int) ≠ 60)))) rfl (fun hg => r_move (hAp.get rfl)) fun _ _ e => ⟨_,e,Chg.refl _ _,fun _ => Eq.refl _⟩
 ·intro a w hT
  have hAp := hT.ag f [(1,.int .i64 d)] ⟨rfl,trivial⟩ (by kernel_rfl)
  have hAp := hAp.add (t := 19) (v := .bool ((decide (c < (b.length : Int))) && (decide (((b.getD c.toNat 0).toNat : Int) ≠ 60)))) (hT.vals 10 rfl 19 rfl)
  exact opk_gval hAp rfl rfl (g := true) (e := ((decide (c < (b.length : Int))) && (decide (((b.getD c.toNat 0).toNat : Int) ≠ 60)))) rfl (fun hg => r_move (hAp.get rfl)) fun _ _ e => ⟨_,e,Chg.refl _ _,fun _ => Eq.refl _⟩
 ·intro a w hT
  have hAp := hT.ag f [] trivial (by kernel_rfl)
  have hAp := hAp.add (t := 19) (v := .bool ((decide (c < (b.length : Int))) && (decide (((b.getD c.toNat 0).toNat : Int) ≠ 60)))) (hT.vals 10 rfl 19 rfl)
  have hAp := hAp.add (t := 24) (v := cV (true && (((decide (c < (b.length : Int))) && (decide (((b.getD c.toNat 0).toNat : Int) ≠ 60))) == true)) (.string (Bs b))) (hT.vals 15 rfl 24 rfl)
  have hAp := hAp.add (t := 25) (v := cV (true && (((decide (c < (b.length : Int))) && (decide (((b.getD c.toNat 0).toNat : Int) ≠ 60))) == true)) (.int .i64 d)) (hT.vals 16 rfl 25 rfl)
  exact opk_gval hAp rfl rfl (g := true) (e := ((decide (c < (b.length : Int))) && (decide (((b.getD c.toNat 0).toNat : Int) ≠ 60)))) rfl (fun hg => r_sindex (cv_get (hAp.get rfl) hg) (cv_get (hAp.get rfl) hg) tU9 (hS137 ⟨(of_decide_eq_true (b_and_t (g_t hg)).1),(of_decide_eq_true (b_and_t (g_t hg)).2)⟩)) fun _ _ e => ⟨_,e,Chg.refl _ _,fun _ => Eq.refl _⟩
 ·intro a w hT
  have hAp := hT.ag f [] trivial (by kernel_rfl)
  have hAp := hAp.add (t := 19) (v := .bool ((decide (c < (b.length : Int))) && (decide (((b.getD c.toNat 0).toNat : Int) ≠ 60)))) (hT.vals 10 rfl 19 rfl)
  have hAp := hAp.add (t := 26) (v := cV (true && (((decide (c < (b.length : Int))) && (decide (((b.getD c.toNat 0).toNat : Int) ≠ 60))) == true)) (.int .u8 ((b.getD d.toNat 0).toNat : Int))) (hT.vals 17 rfl 26 rfl)
  exact opk_gcall hAp rfl rfl (g := true) (e := ((decide (c < (b.length : Int))) && (decide (((b.getD c.toNat 0).toNat : Int) ≠ 60)))) rfl (fun hg => r_call (args := #[.int .u8 ((b.getD d.toNat 0).toNat : Int)]) Tryz.func79 (by decide) rfl (map_arr (ml_cons (cv_get (hAp.get rfl) hg) ml_nil)) rfl) (fun hg => a7 ⟨(of_decide_eq_true (b_and_t (g_t hg)).1),(of_decide_eq_true (b_and_t (g_t hg)).2)⟩ w hT.chg) fun _ _ _ e hE => ⟨_,e,hE,fun _ => Eq.refl _⟩
 ·intro a w hT
  have hAp := hT.ag f [] trivial (by kernel_rfl)
  have hAp := hAp.add (t := 19) (v := .bool ((decide (c < (b.length : Int))) && (decide (((b.getD c.toNat 0).toNat : Int) ≠ 60)))) (hT.vals 10 rfl 19 rfl)
  have hAp := hAp.add (t := 23) (v := cV (true && (((decide (c < (b.length : Int))) && (decide (((b.getD c.toNat 0).toNat : Int) ≠ 60))) == true)) (.bool j)) (hT.vals 14 rfl 23 rfl)
  have hAp := hAp.add (t := 27) (v := cV (true && (((decide (c < (b.length : Int))) && (decide (((b.getD c.toNat 0).toNat : Int) ≠ 60))) == true)) (.bool k)) (hT.vals 18 rfl 27 rfl)
  exact opk_gval hAp rfl rfl (g := true) (e := ((decide (c < (b.length : Int))) && (decide (((b.getD c.toNat 0).toNat : Int) ≠ 60)))) rfl (fun hg => r_beql (cv_get (hAp.get rfl) hg) (cv_get (hAp.get rfl) hg) tU4) fun _ _ e => ⟨_,e,Chg.refl _ _,fun _ => Eq.refl _⟩
 ·intro a w hT
  have hAp := hT.ag f [] trivial (by kernel_rfl)
  have hAp := hAp.add (t := 19) (v := .bool ((decide (c < (b.length : Int))) && (decide (((b.getD c.toNat 0).toNat : Int) ≠ 60)))) (hT.vals 10 rfl 19 rfl)
  have hAp := hAp.add (t := 28) (v := cV (true && (((decide (c < (b.length : Int))) && (decide (((b.getD c.toNat 0).toNat : Int) ≠ 60))) == true)) (.bool (j == k))) (hT.vals 19 rfl 28 rfl)
  exact ovr hAp rfl (r_pick_and (g := (true && (((decide (c < (b.length : Int))) && (decide (((b.getD c.toNat 0).toNat : Int) ≠ 60))) == true))) (hAp.get rfl) (hAp.get rfl) (fun he => g_mkt rfl he)) fun _ => Eq.refl _
 ·intro a8 l ak a9 ba
  have bb := a9 [(0,.string (Bs b)),(1,.int .i64 d),(4,pB i 0),(7,.int .i64 c)] ⟨rfl,rfl,rfl,rfl,trivial⟩ (by kernel_rfl)
  have bd : a8.tmps.getD 29 undef = .bool (((decide (c < (b.length : Int))) && (decide (((b.getD c.toNat 0).toNat : Int) ≠ 60))) && (j == k)) := ba 20 rfl 29 rfl
  have bf := bb.add bd
  have al := aV.ext ak
  have am : Chg [] m l := ak
  refine PR_end (by kernel_rfl) ?_
  have x := bf.kp [(0,.string (Bs b)),(1,.int .i64 d),(4,pB i 0),(7,.int .i64 c),(29,.bool (((decide (c < (b.length : Int))) && (decide (((b.getD c.toNat 0).toNat : Int) ≠ 60))) && (j == k)))] rfl
  refine then_normal ?_
  refine wp_cond_split (x.get rfl) (fun hc => ?_) (fun hc => ?_)
  ·have bg := aj.1 ⟨⟨(of_decide_eq_true (b_and_t (b_and_t hc).1).1),(of_decide_eq_true (b_and_t (b_and_t hc).1).2)⟩,(b_and_t hc).2⟩
   clear hc
   refine wp_skip ?_
   refine then_normal (wp_block (wp_region_lit ?_))
   refine sqv x rfl (r_move (x.get rfl)) fun _ an => ?_
   obtain ⟨bi,bj⟩ := bg
   refine sqv an rfl (r_addI (an.get rfl) rfl bi) fun _ ao => sqv ao rfl (r_assign (ao.get rfl)) fun _ bk => sq_end ?_
   have bl := bk.kp [(0,.string (Bs b)),(1,.int .i64 d),(4,pB i 0),(7,.int .i64 (c + 1))] rfl
   refine block_normal ?_
   have ap := bj l    am
   have bo := bl.kp [(0,.string (Bs b)),(1,.int .i64 d),(4,pB i 0),(7,.int .i64 (c + 1))] rfl
   exact then_normal ⟨(c + 1,l),⟨bo,al,rfl,ap.1⟩,ap.2⟩
  ·have bp := aj.2 ((b_and_f hc).imp (fun h => ((b_and_f h).imp (fun h => (of_decide_eq_false h)) (fun h => (of_decide_eq_false h)))) (fun h => h))
   clear hc
   refine wp_exit ?_
   refine then_exit ?_
   refine then_exit ?_
   refine block_hit ?_
   have aq := x.kp [(0,.string (Bs b)),(1,.int .i64 d),(4,pB i 0),(7,.int .i64 c)] rfl
   refine then_normal (wp_seq (wp_region_lit ?_))
   refine sqv aq rfl (r_move (aq.get rfl)) fun _ ar => sqv ar rfl (r_move (ar.get rfl)) fun _ au => sqv au rfl (r_move (au.get rfl)) fun _ y => ?_
   obtain ⟨bq,bs⟩ := bp
   refine sqv y rfl (r_sslice2 (y.get rfl) (y.get rfl) (y.get rfl) tU9 bq) fun _ av => ?_
   have bt := bs l    am
   refine sq (opk_call av rfl (r_call (args := #[.string (Bs ((List.drop d.toNat b).take (c.toNat - d.toNat))),.bool false]) Tryz.func48 (by decide) rfl (map_arr (ml_cons (av.get rfl) (ml_cons rfl ml_nil))) rfl) bt fun bK bL aa ax _ bu bM bv => ?_)
   obtain ⟨o,rfl,bx⟩ := bv
   have ay := al.kept bu (.head _)
   refine sqv ax rfl (r_build (vs := #[(0,.int .i64 3),(2,.string (Bs o))]) (cells := #[.int .i64 3,.string (Bs []),.string (Bs o),Sl.v Sl.nil,.bool false]) (map_arr2 (ml2_cons rfl (ml2_cons (ax.get rfl) (ml2_nil)))) ti_51 Tryz.underlying51 pl_51 (by kernel_rfl)) fun _ az => sqv az rfl (r_move (az.get rfl)) fun _ ab => ?_
   refine sq (opk_store ab ay (r_store (vs := [.int .i64 3,.string (Bs []),.string (Bs o),Sl.v Sl.nil,.bool false]) (ab.get rfl) (ab.get rfl) rfl ti_51 ay rfl (ones_all _ rfl)) fun bN q bz bA aA => ?_)
   have bB : Box q i 51 [.int .i64 3,.string (Bs []),.string (Bs o),Sl.v Sl.nil,.bool false] := bA
   have bC : Chg [i] aa q := bz
   refine sqv aA rfl (r_assign (aA.get rfl)) fun _ bD => sqv bD rfl (r_assign rfl) fun _ bF => sq_end ?_
   have z := bF.kp [(4,pB i 0),(5,.int .i64 c),(6,.bool true)] rfl
   refine then_normal ?_
   refine wp_ret ?_
   have bG := bx q    bC
   exact res_all (vs := [.agg #[.int .i64 3,.string (Bs []),.string (Bs o),Sl.v Sl.nil,.bool false],.int .i64 c,.bool true]) rfl z ⟨res_of_cell z rfl bB Tryz.underlying51 rfl ti_51,res_of_tmp z rfl,res_of_tmp z rfl,trivial⟩ bG
def ref10_letter.vc (b : Str) (a : Int) (R : Value → World → Prop) (w : World) : Prop :=
(((a < (b.length : Int))) → (0 : Int) ≤ a ∧ a < (b.length : Int)) ∧
∃ (c : Bool),(((a < (b.length : Int))) → Calls Tryz.prog 81 #[.int .u8 ((b.getD a.toNat 0).toNat : Int)] w (Ret fun v w' => Ext w w' ∧ v = .bool c)) ∧
(∀ d : World,Ext w d →
R (.bool ((decide (a < (b.length : Int))) && c)) d)
theorem ref10_letter.ok (b : Str) (a : Int) {R : Value → World → Prop} {w : World} (j : ref10_letter.vc b a R w) : Calls Tryz.prog 50 #[.string (Bs b),.int .i64 a] w (Ret R) := by
 refine enter [.string (Bs b),.int .i64 a] Tryz.func50 rfl Tryz.ntmps50 rfl ?_
 intro a0 u
 unfold ref10_letter.vc at j
 refine wp_seq (wp_region_lit ?_)
 refine sqv u rfl (r_assign rfl) fun _ x => sq_end ?_
 have k := x.kp [(0,.string (Bs b)),(1,.int .i64 a)] rfl
 refine then_normal (wp_seq (wp_region_lit ?_))
 refine sqv k rfl (r_move (k.get rfl)) fun _ l => sqv l rfl (r_move (l.get rfl)) fun _ m => sqv m rfl (r_slen (m.get rfl) tU9) fun _ f => sqv f rfl (r_lss (f.get rfl) (f.get rfl)) fun _ n => sqv n rfl (r_move (n.get rfl)) fun _ o => ?_
 refine sq (opk_gval o rfl rfl (g := true) (e := (decide (a < (b.length : Int)))) rfl (fun hg => r_move (o.get rfl)) fun ah p _ => ?_)
 refine sq (opk_gval p rfl rfl (g := true) (e := (decide (a < (b.length : Int)))) rfl (fun hg => r_move (p.get rfl)) fun ai h _ => ?_)
 obtain ⟨y,z⟩ := j
 refine sq (opk_gval h rfl rfl (g := true) (e := (decide (a < (b.length : Int)))) rfl (fun hg => r_sindex (cv_get (h.get rfl) hg) (cv_get (h.get rfl) hg) tU9 (y (of_decide_eq_true (g_t hg)))) fun aj q _ => ?_)
 obtain ⟨c,aa,ab⟩ := z
 refine sq (opk_gcall q rfl rfl (g := true) (e := (decide (a < (b.length : Int)))) rfl (fun hg => r_call (args := #[.int .u8 ((b.getD a.toNat 0).toNat : Int)]) Tryz.func81 (by decide) rfl (map_arr (ml_cons (cv_get (q.get rfl) hg) ml_nil)) rfl) (fun hg => aa (of_decide_eq_true (g_t hg))) fun ak d i _ r => ?_)
 have al : Chg [] w d := r
 have ad := ab d r
 refine sqv i rfl (r_pick_and (g := (true && ((decide (a < (b.length : Int))) == true))) (i.get rfl) (i.get rfl) (fun he => g_mkt rfl he)) fun _ s => sqv s rfl (r_assign (s.get rfl)) fun _ af => sq_end ?_
 have t := af.kp [(4,.bool ((decide (a < (b.length : Int))) && c))] rfl
 refine then_normal ?_
 refine wp_ret ?_
 exact res_all (vs := [.bool ((decide (a < (b.length : Int))) && c)]) rfl t ⟨res_of_tmp t rfl,trivial⟩ ad
def ref10_tag.vc (b : Str) (o : Int) (i : Int) (R : Value → World → Prop) (w : World) : Prop :=
∀ (w5 : World) (d : Nat),New w d w5 → Chg [] w w5 →
CallK Tryz.prog 82 #[.string (Bs b),.int .i64 o,.string (Bs ([47,62] : Str))] w5 [d] (fun v bT => ∃ (r : Int),v = .int .i64 r ∧
((0 : Int) ≤ o ∧ (o : Int) ≤ r ∧ r ≤ (b.length : Int)) ∧
CallK Tryz.prog 83 #[.string (Bs ((List.drop o.toNat b).take (r.toNat - o.toNat)))] bT [d] (fun v ax => ∃ (l : Str),v = .string (Bs l) ∧
∀ (ag : World) (f : Nat),New ax f ag → Chg [] ax ag →
∃ (aj : Int → Sl → World → Prop) (ak : Int → Sl → World → Nat),
aj r Sl.nil ag ∧
(∀ (z : Int) (m : Sl) (ah : World),aj z m ah →
∃ (ay : Int → World → Prop) (aJ : Int → World → Nat),
ay z ah ∧
(∀ (c : Int) (aa : World),ay c aa →
(((c < (b.length : Int))) → (0 : Int) ≤ c ∧ c < (b.length : Int)) ∧
∃ (t : Bool),(((c < (b.length : Int))) → Calls Tryz.prog 79 #[.int .u8 ((b.getD c.toNat 0).toNat : Int)] aa (Ret fun v w' => Ext aa w' ∧ v = .bool t)) ∧
(∀ p : World,Ext aa p →
(((c < (b.length : Int)) ∧ (t = false)) → (0 : Int) ≤ c ∧ c < (b.length : Int)) ∧
(((c < (b.length : Int)) ∧ ((t = true) ∨ (((b.getD c.toNat 0).toNat : Int) = 47))) →
(I64 (c + 1)) ∧
ay (c + 1) p ∧ aJ (c + 1) p < aJ c aa) ∧
(((¬ (c < (b.length : Int))) ∨ ((t = false) ∧ (¬ (((b.getD c.toNat 0).toNat : Int) = 47)))) →
(((b.length : Int) ≤ c) →
∀ (al : World),Chg [d] p al →
R (.tuple #[.agg #[.int .i64 0,.string (Bs []),.string (Bs []),Sl.v Sl.nil,.bool false],.int .i64 (b.length : Int),.bool false]) al) ∧
((¬ ((b.length : Int) ≤ c)) →
((0 : Int) ≤ c ∧ c < (b.length : Int)) ∧
((((b.getD c.toNat 0).toNat : Int) = 62) →
∃ az : Sl → World → Prop,
(((i = 2) →
∀ (am : World),Chg [f] p am →
az Sl.nil am) ∧
((¬ (i = 2)) →
az m p)) ∧
(∀ (u : Sl) (aA : World),az u aA →
(I64 (c + 1)) ∧
∀ (an : World),Chg [d] aA an →
R (.tuple #[.agg #[.int .i64 i,.string (Bs l),.string (Bs []),Sl.v u,.bool false],.int .i64 (c + 1),.bool true]) an)) ∧
((¬ (((b.getD c.toNat 0).toNat : Int) = 62)) →
(I64 (c + 1)) ∧
CallK Tryz.prog 82 #[.string (Bs b),.int .i64 (c + 1),.string (Bs ([47,62,61] : Str))] p [d,f] (fun v bU => ∃ (x : Int),v = .int .i64 x ∧
((0 : Int) ≤ c ∧ (c : Int) ≤ x ∧ x ≤ (b.length : Int)) ∧
CallK Tryz.prog 83 #[.string (Bs ((List.drop c.toNat b).take (x.toNat - c.toNat)))] bU [d,f] (fun v aB => ∃ (q : Str),v = .string (Bs q) ∧
∀ (ao : World) (j : Nat),New aB j ao → Chg [] aB ao →
CallK Tryz.prog 84 #[.string (Bs b),.int .i64 x] ao [d,f,j] (fun v a2 => ∃ (k : Int),v = .int .i64 k ∧
(((k < (b.length : Int))) → (0 : Int) ≤ k ∧ k < (b.length : Int)) ∧
∃ aC : Int → Str → World → Prop,
((((k < (b.length : Int)) ∧ (((b.getD k.toNat 0).toNat : Int) = 61)) →
(I64 (k + 1)) ∧
CallK Tryz.prog 84 #[.string (Bs b),.int .i64 (k + 1)] a2 [d,f,j] (fun v bX => ∃ (aK : Int),v = .int .i64 aK ∧
CallK Tryz.prog 85 #[.string (Bs b),.int .i64 aK] bX [d,f,j] (fun v aL => ∃ (ap : Str) (y : Int),v = .tuple #[.string (Bs ap),.int .i64 y] ∧
(((b.length : Int) < y) →
∀ (aD : World),Chg [d,j] aL aD →
R (.tuple #[.agg #[.int .i64 0,.string (Bs []),.string (Bs []),Sl.v Sl.nil,.bool false],.int .i64 (b.length : Int),.bool false]) aD) ∧
((¬ ((b.length : Int) < y)) →
∀ (aq : World),Chg [j] aL aq →
aC y ap aq)))) ∧
(((¬ (k < (b.length : Int))) ∨ (¬ (((b.getD k.toNat 0).toNat : Int) = 61))) →
aC k ([] : Str) a2)) ∧
(∀ (n : Int) (ab : Str) (aM : World),aC n ab aM →
CallK Tryz.prog 86 #[Sl.v m,.string (Bs q)] aM [d,f,j] (fun v aG => ∃ (aH : Bool),v = .bool aH ∧
((aH = false) →
CallK Tryz.prog 87 #[Sl.v m,.string (Bs q),.string (Bs ab)] aG [d,f,j] (fun v a3 => ∃ (ai : Sl),v = Sl.v ai ∧
∀ (ad : World),Chg [f] a3 ad →
aj n ai ad ∧ ak n ai ad < ak z m ah)) ∧
((aH = true) →
aj n m aG ∧ ak n m aG < ak z m ah))))))))))))))
theorem ref10_tag.ok (b : Str) (o : Int) (i : Int) {R : Value → World → Prop} {w : World} (bY : ref10_tag.vc b o i R w) : Calls Tryz.prog 51 #[.string (Bs b),.int .i64 o,.int .i64 i] w (Ret R) := by
 refine enter [.string (Bs b),.int .i64 o,.int .i64 i] Tryz.func51 rfl Tryz.ntmps51 rfl ?_
 intro a0 d9
 unfold ref10_tag.vc at bY
 refine wp_seq (wp_region_lit ?_)
 refine sq (opk_new (fun B => .pointer (some ⟨B,0,none⟩)) d9 rfl (r_alloc (cs := [.int .i64 0,.string (Bs []),.string (Bs []),Sl.v Sl.nil,.bool false]) ti_51 rfl) fun a6 w5 d fa fb fc fd _ => ?_)
 have ff : New w d w5 := fb
 have fg : Chg [] w w5 := fa
 refine sqv fd rfl (r_assign rfl) fun _ fh => sqv fh rfl (r_assign rfl) fun _ fi => sq_end ?_
 have bZ := fi.kp [(0,.string (Bs b)),(1,.int .i64 o),(2,.int .i64 i),(6,pB d 0)] rfl
 refine then_normal (wp_seq (wp_region_lit ?_))
 refine sqv bZ rfl (r_move (bZ.get rfl)) fun _ b0 => sqv b0 rfl (r_move (b0.get rfl)) fun _ a4 => ?_
 have fj := bY w5 d ff  fg
 refine sq (opk_call a4 rfl (r_call (args := #[.string (Bs b),.int .i64 o,.string (Bs ([47,62] : Str))]) Tryz.func82 (by decide) rfl (map_arr (ml_cons (a4.get rfl) (ml_cons (a4.get rfl) (ml_cons rfl ml_nil)))) rfl) fj fun iQ iR bT b1 _ fk iS fl => ?_)
 obtain ⟨r,rfl,fm⟩ := fl
 have fn := fc.kept fk (.head _)
 refine sqv b1 rfl (r_assign (b1.get rfl)) fun _ fo => sq_end ?_
 have b2 := fo.kp [(0,.string (Bs b)),(1,.int .i64 o),(2,.int .i64 i),(6,pB d 0),(9,.int .i64 r)] rfl
 refine then_normal (wp_seq (wp_region_lit ?_))
 refine sqv b2 rfl (r_move (b2.get rfl)) fun _ b3 => sqv b3 rfl (r_move (b3.get rfl)) fun _ b4 => sqv b4 rfl (r_move (b4.get rfl)) fun _ b5 => sqv b5 rfl (r_move (b5.get rfl)) fun _ aN => ?_
 obtain ⟨fp,fq⟩ := fm
 refine sqv aN rfl (r_sslice2 (aN.get rfl) (aN.get rfl) (aN.get rfl) tU9 fp) fun _ b6 => ?_
 refine sq (opk_call b6 rfl (r_call (args := #[.string (Bs ((List.drop o.toNat b).take (r.toNat - o.toNat)))]) Tryz.func83 (by decide) rfl (map_arr (ml_cons (b6.get rfl) ml_nil)) rfl) fq fun iT iU ax a5 _ fr iX fs => ?_)
 obtain ⟨l,rfl,ft⟩ := fs
 have b7 := fn.kept fr (.head _)
 refine sqv a5 rfl (r_build (vs := #[(0,.int .i64 i),(1,.string (Bs l))]) (cells := #[.int .i64 i,.string (Bs l),.string (Bs []),Sl.v Sl.nil,.bool false]) (map_arr2 (ml2_cons (a5.get rfl) (ml2_cons (a5.get rfl) (ml2_nil)))) ti_51 Tryz.underlying51 pl_51 (by kernel_rfl)) fun _ fu => ?_
 refine sq (opk_new (fun B => .pointer (some ⟨B,0,none⟩)) fu rfl (r_alloc (cs := [.int .i64 0,.string (Bs []),.string (Bs []),Sl.v Sl.nil,.bool false]) ti_51 rfl) fun iY b8 f b9 ca cb hA48 _ => ?_)
 have ar : d ≠ f := Nat.ne_of_lt (Nat.lt_of_lt_of_le b7.lt ca.ge)
 have cc : New ax f b8 := ca
 have fv := b7.ext b9
 have fx : Chg [] ax b8 := b9
 refine sq (opk_store hA48 cb (r_store (vs := [.int .i64 i,.string (Bs l),.string (Bs []),Sl.v Sl.nil,.bool false]) (hA48.get rfl) (hA48.get rfl) rfl ti_51 cb rfl (ones_all _ rfl)) fun iZ ag a7 fy fz => ?_)
 have fA : Box ag f 51 [.int .i64 i,.string (Bs l),.string (Bs []),Sl.v Sl.nil,.bool false] := fy
 have fB := fv.keep a7 (by simpa using ar)
 have fC := fx.storeNew cc a7
 have fD := cc.up a7.size
 refine sq_end ?_
 have fF := fz.kp [(0,.string (Bs b)),(2,.int .i64 i),(6,pB d 0),(9,.int .i64 r),(10,pB f 0)] rfl
 refine then_normal (wp_block ?_)
 have fG := ft ag f fD  fC
 obtain ⟨aj,ak,fH,fJ⟩ := fG
 refine wp_loop_st (σ := Int × Sl × World) (fun s a w => Ag 112 a [(0,.string (Bs b)),(2,.int .i64 i),(6,pB d 0),(9,.int .i64 s.1),(10,pB f 0)] ∧ Box w d 51 [.int .i64 0,.string (Bs []),.string (Bs []),Sl.v Sl.nil,.bool false] ∧ Box w f 51 [.int .i64 i,.string (Bs l),.string (Bs []),Sl.v s.2.1,.bool false] ∧ w = s.2.2 ∧ aj s.1 s.2.1 s.2.2) (fun s => ak s.1 s.2.1 s.2.2) (r,Sl.nil,ag) ⟨fF.kp [(0,.string (Bs b)),(2,.int .i64 i),(6,pB d 0),(9,.int .i64 r),(10,pB f 0)] rfl,fB,fA,rfl,fH⟩ ?_
 rintro ⟨z,m,ah⟩ i0 w_ ⟨fK,fL,fM,hw_,fN⟩
 have hw_ : ah = w_ := hw_.symm
 subst hw_
 have fO := fJ z m _ fN
 refine wp_block (wp_seq (wp_block ?_))
 obtain ⟨ay,aJ,fP,fQ⟩ := fO
 refine wp_loop_st (σ := Int × World) (fun s a w => Ag 112 a [(0,.string (Bs b)),(2,.int .i64 i),(6,pB d 0),(9,.int .i64 s.1),(10,pB f 0)] ∧ Box w d 51 [.int .i64 0,.string (Bs []),.string (Bs []),Sl.v Sl.nil,.bool false] ∧ Box w f 51 [.int .i64 i,.string (Bs l),.string (Bs []),Sl.v m,.bool false] ∧ w = s.2 ∧ ay s.1 s.2) (fun s => aJ s.1 s.2) (z,ah) ⟨fK.kp [(0,.string (Bs b)),(2,.int .i64 i),(6,pB d 0),(9,.int .i64 z),(10,pB f 0)] rfl,fL,fM,rfl,fP⟩ ?_
 rintro ⟨c,aa⟩ i1 w_ ⟨cd,fR,fS,hw_,fT⟩
 have hw_ : aa = w_ := hw_.symm
 subst hw_
 have fU := fQ c _ fT
 refine wp_seq (wp_seq (wp_region_lit ?_))
 refine sqv cd rfl (r_move (cd.get rfl)) fun _ cf => sqv cf rfl (r_move (cf.get rfl)) fun _ cg => sqv cg rfl (r_slen (cg.get rfl) tU9) fun _ a8 => sqv a8 rfl (r_lss (a8.get rfl) (a8.get rfl)) fun _ ch => sqv ch rfl (r_move (ch.get rfl)) fun _ ci => ?_
 refine sq (opk_gval ci rfl rfl (g := true) (e := (decide (c < (b.length : Int)))) rfl (fun hg => r_move (ci.get rfl)) fun i2 cj _ => ?_)
 refine sq (opk_gval cj rfl rfl (g := true) (e := (decide (c < (b.length : Int)))) rfl (fun hg => r_move (cj.get rfl)) fun i3 a9 _ => ?_)
 obtain ⟨fV,fX⟩ := fU
 refine sq (opk_gval a9 rfl rfl (g := true) (e := (decide (c < (b.length : Int)))) rfl (fun hg => r_sindex (cv_get (a9.get rfl) hg) (cv_get (a9.get rfl) hg) tU9 (fV (of_decide_eq_true (g_t hg)))) fun i4 ck _ => ?_)
 obtain ⟨t,fY,fZ⟩ := fX
 refine sq (opk_gcall ck rfl rfl (g := true) (e := (decide (c < (b.length : Int)))) rfl (fun hg => r_call (args := #[.int .u8 ((b.getD c.toNat 0).toNat : Int)]) Tryz.func79 (by decide) rfl (map_arr (ml_cons (cv_get (ck.get rfl) hg) ml_nil)) rfl) (fun hg => fY (of_decide_eq_true (g_t hg))) fun i5 p cl _ aO => ?_)
 have au := fR.ext aO
 have av := fS.ext aO
 have i6 : Chg [] aa p := aO
 have f0 := fZ p aO
 refine sq (opk_gval cl rfl rfl (g := true) (e := (decide (c < (b.length : Int)))) rfl (fun hg => r_move (cv_get (cl.get rfl) hg)) fun i7 cm _ => ?_)
 refine sq (opk_gval cm rfl rfl (g := (true && ((decide (c < (b.length : Int))) == true))) (e := t) rfl (fun hg => r_move (cm.get rfl)) fun i8 cn _ => ?_)
 refine sq (opk_gval cn rfl rfl (g := (true && ((decide (c < (b.length : Int))) == true))) (e := t) rfl (fun hg => r_move (cn.get rfl)) fun i9 ba _ => ?_)
 obtain ⟨f1,co⟩ := f0
 refine sq (opk_gval ba rfl rfl (g := (true && ((decide (c < (b.length : Int))) == true))) (e := t) rfl (fun hg => r_sindex (cv_get (ba.get rfl) hg) (cv_get (ba.get rfl) hg) tU9 (f1 ⟨(of_decide_eq_true (g_t (g_up hg))),(g_f hg)⟩)) fun ja cp _ => ?_)
 refine sq (opk_gval cp rfl rfl (g := (true && ((decide (c < (b.length : Int))) == true))) (e := t) rfl (fun hg => r_eql (cv_get (cp.get rfl) hg) rfl) fun jb bb _ => ?_)
 refine sq (opk_gval bb rfl rfl (g := true) (e := (decide (c < (b.length : Int)))) rfl (fun hg => r_pick_or (g := ((true && ((decide (c < (b.length : Int))) == true)) && (t == false))) (cv_get (bb.get rfl) hg) (bb.get rfl) (fun he => g_mkf hg he)) fun jc bd _ => ?_)
 refine sqv bd rfl (r_pick_and (g := (true && ((decide (c < (b.length : Int))) == true))) (bd.get rfl) (bd.get rfl) (fun he => g_mkt rfl he)) fun _ f2 => sq_end ?_
 have aP := f2.kp [(0,.string (Bs b)),(2,.int .i64 i),(6,pB d 0),(9,.int .i64 c),(10,pB f 0),(38,.bool ((decide (c < (b.length : Int))) && (t || (decide (((b.getD c.toNat 0).toNat : Int) = 47)))))] rfl
 refine then_normal ?_
 refine wp_cond_split (aP.get rfl) (fun hc => ?_) (fun hc => ?_)
 ·have f3 := co.1 ⟨(of_decide_eq_true (b_and_t hc).1),((b_or_t (b_and_t hc).2).imp (fun h => h) (fun h => (of_decide_eq_true h)))⟩
  clear hc
  refine wp_skip ?_
  refine then_normal (wp_block (wp_region_lit ?_))
  refine sqv aP rfl (r_move (aP.get rfl)) fun _ cq => ?_
  obtain ⟨f4,cr⟩ := f3
  refine sqv cq rfl (r_addI (cq.get rfl) rfl f4) fun _ ct => sqv ct rfl (r_assign (ct.get rfl)) fun _ f5 => sq_end ?_
  have f6 := f5.kp [(0,.string (Bs b)),(2,.int .i64 i),(6,pB d 0),(9,.int .i64 (c + 1)),(10,pB f 0)] rfl
  refine block_normal ?_
  have f7 := f6.kp [(0,.string (Bs b)),(2,.int .i64 i),(6,pB d 0),(9,.int .i64 (c + 1)),(10,pB f 0)] rfl
  exact then_normal ⟨(c + 1,p),⟨f7,au,av,rfl,cr.1⟩,cr.2⟩
 ·have cu := co.2 ((b_and_f hc).imp (fun h => (of_decide_eq_false h)) (fun h => ⟨(b_or_f h).1,(of_decide_eq_false (b_or_f h).2)⟩))
  clear hc
  refine wp_exit ?_
  refine then_exit ?_
  refine then_exit ?_
  refine block_hit ?_
  have cv := aP.kp [(0,.string (Bs b)),(2,.int .i64 i),(6,pB d 0),(9,.int .i64 c),(10,pB f 0)] rfl
  refine then_normal (wp_seq (wp_seq (wp_region_lit ?_)))
  refine sqv cv rfl (r_move (cv.get rfl)) fun _ cx => sqv cx rfl (r_move (cx.get rfl)) fun _ cy => sqv cy rfl (r_slen (cy.get rfl) tU9) fun _ bf => sqv bf rfl (r_geq (bf.get rfl) (bf.get rfl)) fun _ f8 => sq_end ?_
  have aQ := f8.kp [(0,.string (Bs b)),(2,.int .i64 i),(6,pB d 0),(9,.int .i64 c),(10,pB f 0),(44,.bool (decide ((b.length : Int) ≤ c)))] rfl
  refine then_normal ?_
  refine wp_cond_split (aQ.get rfl) (fun hc => ?_) (fun hc => ?_)
  ·have f9 := cu.1 (of_decide_eq_true hc)
   clear hc
   refine wp_seq (wp_region_lit ?_)
   refine sqv aQ rfl (r_build (vs := #[]) (cells := #[.int .i64 0,.string (Bs []),.string (Bs []),Sl.v Sl.nil,.bool false]) (map_arr2 ml2_nil) ti_51 Tryz.underlying51 pl_51 (by kernel_rfl)) fun _ cz => sqv cz rfl (r_move (cz.get rfl)) fun _ cA => sqv cA rfl (r_slen (cA.get rfl) tU9) fun _ bg => ?_
   refine sq (opk_store bg au (r_store (vs := [.int .i64 0,.string (Bs []),.string (Bs []),Sl.v Sl.nil,.bool false]) (bg.get rfl) (bg.get rfl) rfl ti_51 au rfl (ones_all _ rfl)) fun jd al cB ga cD => ?_)
   have gc : Box al d 51 [.int .i64 0,.string (Bs []),.string (Bs []),Sl.v Sl.nil,.bool false] := ga
   have jf := av.keep cB (by simpa using ar.symm)
   have gd : Chg [d] p al := cB
   refine sqv cD rfl (r_assign (cD.get rfl)) fun _ gf => sqv gf rfl (r_assign rfl) fun _ gg => sq_end ?_
   have aR := gg.kp [(6,pB d 0),(7,.int .i64 (b.length : Int)),(8,.bool false)] rfl
   refine then_normal ?_
   refine wp_ret ?_
   refine then_ret ?_
   refine block_ret ?_
   refine then_ret ?_
   refine block_ret ?_
   have gh := f9 al    gd
   exact res_all (vs := [.agg #[.int .i64 0,.string (Bs []),.string (Bs []),Sl.v Sl.nil,.bool false],.int .i64 (b.length : Int),.bool false]) rfl aR ⟨res_of_cell aR rfl gc Tryz.underlying51 rfl ti_51,res_of_tmp aR rfl,res_of_tmp aR rfl,trivial⟩ gh
  ·have gj := cu.2 (of_decide_eq_false hc)
   clear hc
   refine wp_skip ?_
   refine then_normal (wp_seq (wp_seq (wp_region_lit ?_)))
   refine sqv aQ rfl (r_move (aQ.get rfl)) fun _ cF => sqv cF rfl (r_move (cF.get rfl)) fun _ bi => ?_
   obtain ⟨gm,cH⟩ := gj
   refine sqv bi rfl (r_sindex (bi.get rfl) (bi.get rfl) tU9 gm) fun _ cI => sqv cI rfl (r_eql (cI.get rfl) rfl) fun _ gq => sq_end ?_
   have aI := gq.kp [(0,.string (Bs b)),(2,.int .i64 i),(6,pB d 0),(9,.int .i64 c),(10,pB f 0),(51,.bool (decide (((b.getD c.toNat 0).toNat : Int) = 62)))] rfl
   refine then_normal ?_
   refine wp_cond_split (aI.get rfl) (fun hc => ?_) (fun hc => ?_)
   ·have gu := cH.1 (of_decide_eq_true hc)
    clear hc
    refine wp_seq (wp_seq (wp_region_lit ?_))
    refine sqv aI rfl (r_move (aI.get rfl)) fun _ cJ => sqv cJ rfl (r_eql (cJ.get rfl) rfl) fun _ gG => sq_end ?_
    have aS := gG.kp [(6,pB d 0),(9,.int .i64 c),(10,pB f 0),(53,.bool (decide (i = 2)))] rfl
    refine then_normal ?_
    obtain ⟨az,cK,gJ⟩ := gu
    refine wp_meet (fun a w => ∃ u : Sl,Ag 112 a [(6,pB d 0),(9,.int .i64 c),(10,pB f 0)] ∧ Box w d 51 [.int .i64 0,.string (Bs []),.string (Bs []),Sl.v Sl.nil,.bool false] ∧ Box w f 51 [.int .i64 i,.string (Bs l),.string (Bs []),Sl.v u,.bool false] ∧ az u w) ?_ ?_
    ·refine wp_cond_split (aS.get rfl) (fun hc => ?_) (fun hc => ?_)
     ·have gU := cK.1 (of_decide_eq_true hc)
      clear hc
      refine wp_region_lit ?_
      refine sqv aS rfl (r_fieldAddr (aS.get rfl) Tryz.underlying51 rfl ti_25 (by decide)) fun _ cL => ?_
      refine sq (opk_store cL av (r_store (vs := [Sl.v Sl.nil]) (cL.get rfl) rfl rfl ti_25 av rfl (ones_all _ rfl)) fun jg am cM gY g0 => ?_)
      have g4 : Box am f 51 [.int .i64 i,.string (Bs l),.string (Bs []),Sl.v Sl.nil,.bool false] := gY
      have g5 := au.keep cM (by simpa using ar)
      have g6 : Chg [f] p am := cM
      refine sq_end ?_
      have g7 := g0.kp [(6,pB d 0),(9,.int .i64 c),(10,pB f 0)] rfl
      have g8 := gU am    g6
      have g9 := g7.kp [(6,pB d 0),(9,.int .i64 c),(10,pB f 0)] rfl
      exact then_normal ⟨Sl.nil,g9,g5,g4,g8⟩
     ·have ha := cK.2 (of_decide_eq_false hc)
      clear hc
      refine wp_skip ?_
      have hb := aS.kp [(6,pB d 0),(9,.int .i64 c),(10,pB f 0)] rfl
      exact then_normal ⟨m,hb,au,av,ha⟩
    ·intro jh aA hm
     obtain ⟨u,cN,cO,cP,hd⟩ := hm
     have hf := gJ u aA hd
     refine then_normal (wp_seq (wp_region_lit ?_))
     refine sqv cN rfl (r_loadN (cs := [.int .i64 i,.string (Bs l),.string (Bs []),Sl.v u,.bool false]) Tryz.underlying51 rfl ti_51 (cN.get rfl) (cP.part 0 _ rfl)) fun _ cQ => sqv cQ rfl (r_move (cQ.get rfl)) fun _ cS => ?_
     obtain ⟨hh,hi⟩ := hf
     refine sqv cS rfl (r_addI (cS.get rfl) rfl hh) fun _ bj => ?_
     refine sq (opk_store bj cO (r_store (vs := [.int .i64 i,.string (Bs l),.string (Bs []),Sl.v u,.bool false]) (bj.get rfl) (bj.get rfl) rfl ti_51 cO rfl (ones_all _ rfl)) fun ji an cT hj cU => ?_)
     have hk : Box an d 51 [.int .i64 i,.string (Bs l),.string (Bs []),Sl.v u,.bool false] := hj
     have jj := cP.keep cT (by simpa using ar.symm)
     have hl : Chg [d] aA an := cT
     refine sqv cU rfl (r_assign (cU.get rfl)) fun _ hn => sqv hn rfl (r_assign rfl) fun _ ho => sq_end ?_
     have aU := ho.kp [(6,pB d 0),(7,.int .i64 (c + 1)),(8,.bool true)] rfl
     refine then_normal ?_
     refine wp_ret ?_
     refine then_ret ?_
     refine block_ret ?_
     refine then_ret ?_
     refine block_ret ?_
     have hp := hi an    hl
     exact res_all (vs := [.agg #[.int .i64 i,.string (Bs l),.string (Bs []),Sl.v u,.bool false],.int .i64 (c + 1),.bool true]) rfl aU ⟨res_of_cell aU rfl hk Tryz.underlying51 rfl ti_51,res_of_tmp aU rfl,res_of_tmp aU rfl,trivial⟩ hp
   ·have hq := cH.2 (of_decide_eq_false hc)
    clear hc
    refine wp_skip ?_
    refine then_normal (wp_seq (wp_region_lit ?_))
    refine sqv aI rfl (r_move (aI.get rfl)) fun _ cY => sqv cY rfl (r_move (cY.get rfl)) fun _ cZ => ?_
    obtain ⟨hr,hs⟩ := hq
    refine sqv cZ rfl (r_addI (cZ.get rfl) rfl hr) fun _ bk => ?_
    refine sq (opk_call bk rfl (r_call (args := #[.string (Bs b),.int .i64 (c + 1),.string (Bs ([47,62,61] : Str))]) Tryz.func82 (by decide) rfl (map_arr (ml_cons (bk.get rfl) (ml_cons (bk.get rfl) (ml_cons rfl ml_nil)))) rfl) hs fun jk jl bU c0 _ c1 jm ht => ?_)
    obtain ⟨x,rfl,hu⟩ := ht
    have hv := au.kept c1 (.head _)
    have hx := av.kept c1 (.tail _ (.head _))
    refine sqv c0 rfl (r_assign (c0.get rfl)) fun _ hy => sq_end ?_
    have c2 := hy.kp [(0,.string (Bs b)),(2,.int .i64 i),(6,pB d 0),(9,.int .i64 c),(10,pB f 0),(11,.int .i64 x)] rfl
    refine then_normal (wp_seq (wp_region_lit ?_))
    refine sqv c2 rfl (r_move (c2.get rfl)) fun _ c3 => sqv c3 rfl (r_move (c3.get rfl)) fun _ c4 => sqv c4 rfl (r_move (c4.get rfl)) fun _ aV => ?_
    obtain ⟨hz,hA⟩ := hu
    refine sqv aV rfl (r_sslice2 (aV.get rfl) (aV.get rfl) (aV.get rfl) tU9 hz) fun _ c5 => ?_
    refine sq (opk_call c5 rfl (r_call (args := #[.string (Bs ((List.drop c.toNat b).take (x.toNat - c.toNat)))]) Tryz.func83 (by decide) rfl (map_arr (ml_cons (c5.get rfl) ml_nil)) rfl) hA fun jn jo aB c6 _ c7 jp hB => ?_)
    obtain ⟨q,rfl,hC⟩ := hB
    have c8 := hv.kept c7 (.head _)
    have c9 := hx.kept c7 (.tail _ (.head _))
    refine sqv c6 rfl (r_build (vs := #[(0,.string (Bs q))]) (cells := #[.string (Bs q),.string (Bs [])]) (map_arr2 (ml2_cons (c6.get rfl) (ml2_nil))) ti_79 Tryz.underlying79 pl_79 (by kernel_rfl)) fun _ hD => ?_
    refine sq (opk_new (fun B => .pointer (some ⟨B,0,none⟩)) hD rfl (r_alloc (cs := [.string (Bs []),.string (Bs [])]) ti_79 rfl) fun jq da j bl bo db bp _ => ?_)
    have bq : d ≠ j := Nat.ne_of_lt (Nat.lt_of_lt_of_le c8.lt bo.ge)
    have bs : f ≠ j := Nat.ne_of_lt (Nat.lt_of_lt_of_le c9.lt bo.ge)
    have dc : New aB j da := bo
    have hF := c8.ext bl
    have hG := c9.ext bl
    have hH : Chg [] aB da := bl
    refine sq (opk_store bp db (r_store (vs := [.string (Bs q),.string (Bs [])]) (bp.get rfl) (bp.get rfl) rfl ti_79 db rfl (ones_all _ rfl)) fun jr ao aX hI hJ => ?_)
    have hK : Box ao j 79 [.string (Bs q),.string (Bs [])] := hI
    have hL := hF.keep aX (by simpa using bq)
    have hM := hG.keep aX (by simpa using bs)
    have hN := hH.storeNew dc aX
    have hO := dc.up aX.size
    refine sq_end ?_
    have dd := hJ.kp [(0,.string (Bs b)),(2,.int .i64 i),(6,pB d 0),(10,pB f 0),(11,.int .i64 x),(12,pB j 0)] rfl
    refine then_normal (wp_seq (wp_region_lit ?_))
    refine sqv dd rfl (r_move (dd.get rfl)) fun _ df => sqv df rfl (r_move (df.get rfl)) fun _ bt => ?_
    have hP := hC ao j hO  hN
    refine sq (opk_call bt rfl (r_call (args := #[.string (Bs b),.int .i64 x]) Tryz.func84 (by decide) rfl (map_arr (ml_cons (bt.get rfl) (ml_cons (bt.get rfl) ml_nil))) rfl) hP fun js jt a2 dg _ bu ju hQ => ?_)
    obtain ⟨k,rfl,hR⟩ := hQ
    have dh := hL.kept bu (.head _)
    have di := hM.kept bu (.tail _ (.head _))
    have dj := hK.kept bu (.tail _ (.tail _ (.head _)))
    refine sqv dg rfl (r_assign (dg.get rfl)) fun _ hT => sq_end ?_
    have dk := hT.kp [(0,.string (Bs b)),(2,.int .i64 i),(6,pB d 0),(9,.int .i64 k),(10,pB f 0),(12,pB j 0)] rfl
    refine then_normal (wp_seq (wp_seq (wp_region_lit ?_)))
    refine sqv dk rfl (r_move (dk.get rfl)) fun _ dl => sqv dl rfl (r_move (dl.get rfl)) fun _ dm => sqv dm rfl (r_slen (dm.get rfl) tU9) fun _ bv => sqv bv rfl (r_lss (bv.get rfl) (bv.get rfl)) fun _ dn => sqv dn rfl (r_move (dn.get rfl)) fun _ dp => ?_
    refine sq (opk_gval dp rfl rfl (g := true) (e := (decide (k < (b.length : Int)))) rfl (fun hg => r_move (dp.get rfl)) fun jv dq _ => ?_)
    refine sq (opk_gval dq rfl rfl (g := true) (e := (decide (k < (b.length : Int)))) rfl (fun hg => r_move (dq.get rfl)) fun jx bx _ => ?_)
    obtain ⟨hU,hV⟩ := hR
    refine sq (opk_gval bx rfl rfl (g := true) (e := (decide (k < (b.length : Int)))) rfl (fun hg => r_sindex (cv_get (bx.get rfl) hg) (cv_get (bx.get rfl) hg) tU9 (hU (of_decide_eq_true (g_t hg)))) fun jy dr _ => ?_)
    refine sq (opk_gval dr rfl rfl (g := true) (e := (decide (k < (b.length : Int)))) rfl (fun hg => r_eql (cv_get (dr.get rfl) hg) rfl) fun jz bz _ => ?_)
    refine sqv bz rfl (r_pick_and (g := (true && ((decide (k < (b.length : Int))) == true))) (bz.get rfl) (bz.get rfl) (fun he => g_mkt rfl he)) fun _ hX => sq_end ?_
    have aY := hX.kp [(0,.string (Bs b)),(2,.int .i64 i),(6,pB d 0),(9,.int .i64 k),(10,pB f 0),(12,pB j 0),(80,.bool ((decide (k < (b.length : Int))) && (decide (((b.getD k.toNat 0).toNat : Int) = 61))))] rfl
    refine then_normal ?_
    obtain ⟨aC,ds,hY⟩ := hV
    refine wp_meet (fun a w => ∃ n : Int,∃ ab : Str,Ag 112 a [(0,.string (Bs b)),(2,.int .i64 i),(6,pB d 0),(9,.int .i64 n),(10,pB f 0),(12,pB j 0)] ∧ Box w d 51 [.int .i64 0,.string (Bs []),.string (Bs []),Sl.v Sl.nil,.bool false] ∧ Box w f 51 [.int .i64 i,.string (Bs l),.string (Bs []),Sl.v m,.bool false] ∧ Box w j 79 [.string (Bs q),.string (Bs ab)] ∧ aC n ab w) ?_ ?_
    ·refine wp_cond_split (aY.get rfl) (fun hc => ?_) (fun hc => ?_)
     ·have hZ := ds.1 ⟨(of_decide_eq_true (b_and_t hc).1),(of_decide_eq_true (b_and_t hc).2)⟩
      clear hc
      refine wp_seq (wp_region_lit ?_)
      refine sqv aY rfl (r_move (aY.get rfl)) fun _ dt => sqv dt rfl (r_move (dt.get rfl)) fun _ du => sqv du rfl (r_move (du.get rfl)) fun _ dv => ?_
      obtain ⟨h0,h1⟩ := hZ
      refine sqv dv rfl (r_addI (dv.get rfl) rfl h0) fun _ bA => ?_
      refine sq (opk_call bA rfl (r_call (args := #[.string (Bs b),.int .i64 (k + 1)]) Tryz.func84 (by decide) rfl (map_arr (ml_cons (bA.get rfl) (ml_cons (bA.get rfl) ml_nil))) rfl) h1 fun jA jB bX bB _ bC jC h2 => ?_)
      obtain ⟨aK,rfl,h3⟩ := h2
      have h4 := dh.kept bC (.head _)
      have h5 := di.kept bC (.tail _ (.head _))
      have h6 := dj.kept bC (.tail _ (.tail _ (.head _)))
      refine sq (opk_call bB rfl (r_call (args := #[.string (Bs b),.int .i64 aK]) Tryz.func85 (by decide) rfl (map_arr (ml_cons (bB.get rfl) (ml_cons (bB.get rfl) ml_nil))) rfl) h3 fun jD jF aL dx _ bD jG h7 => ?_)
      obtain ⟨ap,y,rfl,dy⟩ := h7
      have h8 := h4.kept bD (.head _)
      have h9 := h5.kept bD (.tail _ (.head _))
      have dz := h6.kept bD (.tail _ (.tail _ (.head _)))
      refine sqv dx rfl (r_move (dx.get rfl)) fun _ dA => sqv dA rfl (r_extract (dA.get rfl) rfl) fun _ dB => sqv dB rfl (r_extract (dB.get rfl) rfl) fun _ dC => sqv dC rfl (r_fieldAddr (dC.get rfl) Tryz.underlying79 rfl ti_9 (by decide)) fun _ bF => ?_
      refine sq (opk_store bF dz (r_store (vs := [.string (Bs ap)]) (bF.get rfl) (bF.get rfl) rfl ti_9 dz rfl (ones_all _ rfl)) fun jH aq bG ia dD => ?_)
      have dG : Box aq j 79 [.string (Bs q),.string (Bs ap)] := ia
      have bH := h8.keep bG (by simpa using bq)
      have dH := h9.keep bG (by simpa using bs)
      have dI : Chg [j] aL aq := bG
      refine sqv dD rfl (r_assign (dD.get rfl)) fun _ ib => sq_end ?_
      have dJ := ib.kp [(0,.string (Bs b)),(2,.int .i64 i),(6,pB d 0),(9,.int .i64 y),(10,pB f 0),(12,pB j 0)] rfl
      refine then_normal (wp_seq (wp_region_lit ?_))
      refine sqv dJ rfl (r_move (dJ.get rfl)) fun _ dK => sqv dK rfl (r_move (dK.get rfl)) fun _ dL => sqv dL rfl (r_slen (dL.get rfl) tU9) fun _ bI => sqv bI rfl (r_gtr (bI.get rfl) (bI.get rfl)) fun _ id => sq_end ?_
      have bJ := id.kp [(0,.string (Bs b)),(2,.int .i64 i),(6,pB d 0),(9,.int .i64 y),(10,pB f 0),(12,pB j 0),(94,.bool (decide ((b.length : Int) < y)))] rfl
      refine then_normal ?_
      refine wp_cond_split (bJ.get rfl) (fun hc => ?_) (fun hc => ?_)
      ·have ig := dy.1 (of_decide_eq_true hc)
       clear hc
       refine wp_seq (wp_region_lit ?_)
       refine sqv bJ rfl (r_build (vs := #[]) (cells := #[.int .i64 0,.string (Bs []),.string (Bs []),Sl.v Sl.nil,.bool false]) (map_arr2 ml2_nil) ti_51 Tryz.underlying51 pl_51 (by kernel_rfl)) fun _ dM => sqv dM rfl (r_move (dM.get rfl)) fun _ dN => sqv dN rfl (r_slen (dN.get rfl) tU9) fun _ bK => ?_
       refine sq (opk_store bK bH (r_store (vs := [.int .i64 0,.string (Bs []),.string (Bs []),Sl.v Sl.nil,.bool false]) (bK.get rfl) (bK.get rfl) rfl ti_51 bH rfl (ones_all _ rfl)) fun jI aD bL ih dO => ?_)
       have ii : Box aD d 51 [.int .i64 0,.string (Bs []),.string (Bs []),Sl.v Sl.nil,.bool false] := ih
       have jJ := dH.keep bL (by simpa using ar.symm)
       have jK := dG.keep bL (by simpa using bq.symm)
       have ij := dI.storeOld bL
       refine sqv dO rfl (r_assign (dO.get rfl)) fun _ ik => sqv ik rfl (r_assign rfl) fun _ il => sq_end ?_
       have aZ := il.kp [(6,pB d 0),(7,.int .i64 (b.length : Int)),(8,.bool false)] rfl
       refine then_normal ?_
       refine wp_ret ?_
       refine then_ret ?_
       refine then_ret ?_
       refine block_ret ?_
       refine then_ret ?_
       refine block_ret ?_
       have im := ig aD    ij
       exact res_all (vs := [.agg #[.int .i64 0,.string (Bs []),.string (Bs []),Sl.v Sl.nil,.bool false],.int .i64 (b.length : Int),.bool false]) rfl aZ ⟨res_of_cell aZ rfl ii Tryz.underlying51 rfl ti_51,res_of_tmp aZ rfl,res_of_tmp aZ rfl,trivial⟩ im
      ·have io := dy.2 (of_decide_eq_false hc)
       clear hc
       refine wp_skip ?_
       have ip := io aq    dI
       have iq := bJ.kp [(0,.string (Bs b)),(2,.int .i64 i),(6,pB d 0),(9,.int .i64 y),(10,pB f 0),(12,pB j 0)] rfl
       exact then_normal ⟨y,ap,iq,bH,dH,dG,ip⟩
     ·have ir := ds.2 ((b_and_f hc).imp (fun h => (of_decide_eq_false h)) (fun h => (of_decide_eq_false h)))
      clear hc
      refine wp_skip ?_
      have it := aY.kp [(0,.string (Bs b)),(2,.int .i64 i),(6,pB d 0),(9,.int .i64 k),(10,pB f 0),(12,pB j 0)] rfl
      exact then_normal ⟨k,([] : Str),it,dh,di,dj,ir⟩
    ·intro jL aM hm
     obtain ⟨n,ab,dP,iu,dQ,dR,iv⟩ := hm
     have ix := hY n ab aM iv
     refine then_normal (wp_seq (wp_region_lit ?_))
     refine sqv dP rfl (r_fieldAddr (dP.get rfl) Tryz.underlying51 rfl ti_25 (by decide)) fun _ dS => sqv dS rfl (r_load1 tU25 rfl (dS.get rfl) (dQ.cell 3 _ rfl)) fun _ dU => sqv dU rfl (r_fieldAddr (dU.get rfl) Tryz.underlying79 rfl ti_9 (by decide)) fun _ dV => sqv dV rfl (r_load1 tU9 rfl (dV.get rfl) (dR.cell 0 _ rfl)) fun _ bM => ?_
     refine sq (opk_call bM rfl (r_call (args := #[Sl.v m,.string (Bs q)]) Tryz.func86 (by decide) rfl (map_arr (ml_cons (bM.get rfl) (ml_cons (bM.get rfl) ml_nil))) rfl) ix fun jM jN aG dX _ bN jO iy => ?_)
     obtain ⟨aH,rfl,dY⟩ := iy
     have dZ := iu.kept bN (.head _)
     have bO := dQ.kept bN (.tail _ (.head _))
     have bP := dR.kept bN (.tail _ (.tail _ (.head _)))
     refine sqv dX rfl (r_not (dX.get rfl)) fun _ iz => sq_end ?_
     have hA1415 := iz.kp [(0,.string (Bs b)),(2,.int .i64 i),(6,pB d 0),(9,.int .i64 n),(10,pB f 0),(12,pB j 0),(103,.bool (!aH))] rfl
     refine then_normal ?_
     refine wp_cond_split (hA1415.get rfl) (fun hc => ?_) (fun hc => ?_)
     ·have iA := dY.1 (b_not_t hc)
      clear hc
      refine wp_region_lit ?_
      refine sqv hA1415 rfl (r_fieldAddr (hA1415.get rfl) Tryz.underlying51 rfl ti_25 (by decide)) fun _ d0 => sqv d0 rfl (r_load1 tU25 rfl (d0.get rfl) (bO.cell 3 _ rfl)) fun _ d1 => sqv d1 rfl (r_fieldAddr (d1.get rfl) Tryz.underlying79 rfl ti_9 (by decide)) fun _ d2 => sqv d2 rfl (r_load1 tU9 rfl (d2.get rfl) (bP.cell 0 _ rfl)) fun _ d3 => sqv d3 rfl (r_fieldAddr (d3.get rfl) Tryz.underlying79 rfl ti_9 (by decide)) fun _ d4 => sqv d4 rfl (r_load1 tU9 rfl (d4.get rfl) (bP.cell 1 _ rfl)) fun _ a1 => ?_
      refine sq (opk_call a1 rfl (r_call (args := #[Sl.v m,.string (Bs q),.string (Bs ab)]) Tryz.func87 (by decide) rfl (map_arr (ml_cons (a1.get rfl) (ml_cons (a1.get rfl) (ml_cons (a1.get rfl) ml_nil)))) rfl) iA fun jP jQ a3 d5 _ bQ jR iB => ?_)
      obtain ⟨ai,rfl,iC⟩ := iB
      have iD := dZ.kept bQ (.head _)
      have d6 := bO.kept bQ (.tail _ (.head _))
      have iF := bP.kept bQ (.tail _ (.tail _ (.head _)))
      refine sqv d5 rfl (r_fieldAddr (d5.get rfl) Tryz.underlying51 rfl ti_25 (by decide)) fun _ bR => ?_
      refine sq (opk_store bR d6 (r_store (vs := [Sl.v ai]) (bR.get rfl) (bR.get rfl) rfl ti_25 d6 rfl (ones_all _ rfl)) fun jS ad bS iG iH => ?_)
      have iI : Box ad f 51 [.int .i64 i,.string (Bs l),.string (Bs []),Sl.v ai,.bool false] := iG
      have iJ := iD.keep bS (by simpa using ar)
      have jT := iF.keep bS (by simpa using bs.symm)
      have iK : Chg [f] a3 ad := bS
      refine sq_end ?_
      have iL := iH.kp [(0,.string (Bs b)),(2,.int .i64 i),(6,pB d 0),(9,.int .i64 n),(10,pB f 0)] rfl
      refine block_normal ?_
      have d7 := iC ad    iK
      have iM := iL.kp [(0,.string (Bs b)),(2,.int .i64 i),(6,pB d 0),(9,.int .i64 n),(10,pB f 0)] rfl
      exact then_normal ⟨(n,ai,ad),⟨iM,iJ,iI,rfl,d7.1⟩,d7.2⟩
     ·have d8 := dY.2 (b_not_f hc)
      clear hc
      refine wp_skip ?_
      refine block_normal ?_
      have iN := hA1415.kp [(0,.string (Bs b)),(2,.int .i64 i),(6,pB d 0),(9,.int .i64 n),(10,pB f 0)] rfl
      exact then_normal ⟨(n,m,aG),⟨iN,dZ,bO,rfl,d8.1⟩,d8.2⟩
end Go.Proofs.YtenokfdkckhhiaaGreatDoor
