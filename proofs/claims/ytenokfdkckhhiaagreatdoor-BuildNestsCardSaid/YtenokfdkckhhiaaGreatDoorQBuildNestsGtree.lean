/-
  PRINTED BY PROGRAM: for each function its condition (vc), and that this suffices (ok).
-/
import Derived.Test.YtenokfdkckhhiaaGreatDoorQBuildNestsGT
namespace Go.Proofs.YtenokfdkckhhiaaGreatDoor
open Go.RowKit
set_option linter.unusedVariables false
set_option maxHeartbeats 1000000
set_option maxRecDepth 10000
def tree_Check.vc (a : Int) (f : Str) (h : Str) (d : Sl) (i : Sl) (R : Value → World → Prop) (w : World) : Prop :=
∀ (k : World) (r : Nat),New w r k → Chg [] w k →
∃ (b : Int),(((a = 1)) → Calls Tryz.prog 38 #[.agg #[.int .i64 a,.string (Bs f),.string (Bs h),Sl.v d,Sl.v i]] k (Ret fun v w' => Ext k w' ∧ v = .int .i64 b)) ∧
(∀ m : World,Ext k m →
∃ (c : Int),((((a = 1) ∧ (b ≤ 300))) → Calls Tryz.prog 39 #[.agg #[.int .i64 a,.string (Bs f),.string (Bs h),Sl.v d,Sl.v i]] m (Ret fun v w' => Ext m w' ∧ v = .int .i64 c)) ∧
(∀ o : World,Ext m o →
∀ (l : World),Chg [] o l →
∀ (p : Nat) (_ : o.heap.size ≤ p) (_ : ((((a = 1) ∧ (b ≤ 300)) ∧ (c ≤ 60))) → Box l p 9 [.string (Bs f),.string (Bs h)]),
∃ (j : Bool),(((((a = 1) ∧ (b ≤ 300)) ∧ (c ≤ 60))) → Calls Tryz.prog 40 #[Sl.v (Sl.mk (some ⟨p,0,none⟩) 2 2)] l (Ret fun v w' => Ext l w' ∧ v = .bool j)) ∧
(∀ q : World,Ext l q →
∃ (s : Bool),(((((((a = 1) ∧ (b ≤ 300)) ∧ (c ≤ 60)) ∧ (j = true)) ∧ ((d.n : Int) = 0))) → Calls Tryz.prog 41 #[.agg #[.int .i64 a,.string (Bs f),.string (Bs h),Sl.v d,Sl.v i]] q (Ret fun v w' => Ext q w' ∧ v = .bool s)) ∧
(∀ t : World,Ext q t →
R (.bool ((((((decide (a = 1)) && (decide (b ≤ 300))) && (decide (c ≤ 60))) && j) && (decide ((d.n : Int) = 0))) && s)) t))))
theorem tree_Check.ok (a : Int) (f : Str) (h : Str) (d : Sl) (i : Sl) {R : Value → World → Prop} {w : World} (al : tree_Check.vc a f h d i R w) : Calls Tryz.prog 23 #[.agg #[.int .i64 a,.string (Bs f),.string (Bs h),Sl.v d,Sl.v i]] w (Ret R) := by
 refine enter [.agg #[.int .i64 a,.string (Bs f),.string (Bs h),Sl.v d,Sl.v i]] Tryz.func23 rfl Tryz.ntmps23 rfl ?_
 intro a0 am
 unfold tree_Check.vc at al
 refine wp_seq (wp_region_lit ?_)
 refine sq (opk_new (fun B => .pointer (some ⟨B,0,none⟩)) am rfl (r_box (cs := [.int .i64 a,.string (Bs f),.string (Bs h),Sl.v d,Sl.v i]) (am.get rfl) rfl) fun a4 k r aY aZ x hA4 _ => ?_)
 have a1 : New w r k := aZ
 have a2 : Chg [] w k := aY
 refine sqv hA4 rfl (r_assign rfl) fun _ a3 => sq_end ?_
 have an := a3.kp [(1,pB r 0)] rfl
 refine then_normal (wp_seq (wp_region_lit ?_))
 refine sqv an rfl (r_fieldAddr (an.get rfl) Tryz.underlying28 rfl ti_3 (by decide)) fun _ ao => sqv ao rfl (r_load1 tU3 rfl (ao.get rfl) (x.cell 0 _ rfl)) fun _ ap => sqv ap rfl (r_eql (ap.get rfl) rfl) fun _ aq => sqv aq rfl (r_move (aq.get rfl)) fun _ ar => ?_
 refine sq (opk_gval ar rfl rfl (g := true) (e := (decide (a = 1))) rfl (fun hg => r_loadN (cs := [.int .i64 a,.string (Bs f),.string (Bs h),Sl.v d,Sl.v i]) Tryz.underlying28 rfl ti_28 (ar.get rfl) (x.part 0 _ rfl)) fun bz au _ => ?_)
 have ht17 := al k r a1  a2
 obtain ⟨b,a5,a6⟩ := ht17
 refine sq (opk_gcall au rfl rfl (g := true) (e := (decide (a = 1))) rfl (fun hg => r_call (args := #[.agg #[.int .i64 a,.string (Bs f),.string (Bs h),Sl.v d,Sl.v i]]) Tryz.func38 (by decide) rfl (map_arr (ml_cons (cv_get (au.get rfl) hg) ml_nil)) rfl) (fun hg => a5 (of_decide_eq_true (g_t hg))) fun bA m av _ y => ?_)
 have ax := x.ext y
 have bB : Chg [] k m := y
 have a7 := a6 m y
 refine sq (opk_gval av rfl rfl (g := true) (e := (decide (a = 1))) rfl (fun hg => r_leq (cv_get (av.get rfl) hg) rfl) fun bC z _ => ?_)
 refine sqv z rfl (r_pick_and (g := (true && ((decide (a = 1)) == true))) (z.get rfl) (z.get rfl) (fun he => g_mkt rfl he)) fun _ ay => sqv ay rfl (r_move (ay.get rfl)) fun _ az => ?_
 refine sq (opk_gval az rfl rfl (g := true) (e := ((decide (a = 1)) && (decide (b ≤ 300)))) rfl (fun hg => r_loadN (cs := [.int .i64 a,.string (Bs f),.string (Bs h),Sl.v d,Sl.v i]) Tryz.underlying28 rfl ti_28 (az.get rfl) (ax.part 0 _ rfl)) fun bD aA _ => ?_)
 obtain ⟨c,a8,a9⟩ := a7
 refine sq (opk_gcall aA rfl rfl (g := true) (e := ((decide (a = 1)) && (decide (b ≤ 300)))) rfl (fun hg => r_call (args := #[.agg #[.int .i64 a,.string (Bs f),.string (Bs h),Sl.v d,Sl.v i]]) Tryz.func39 (by decide) rfl (map_arr (ml_cons (cv_get (aA.get rfl) hg) ml_nil)) rfl) (fun hg => a8 ⟨(of_decide_eq_true (b_and_t (g_t hg)).1),(of_decide_eq_true (b_and_t (g_t hg)).2)⟩) fun bF o aB _ aa => ?_)
 have u := ax.ext aa
 have bG : Chg [] m o := aa
 have ba := a9 o aa
 refine sq (opk_gval aB rfl rfl (g := true) (e := ((decide (a = 1)) && (decide (b ≤ 300)))) rfl (fun hg => r_leq (cv_get (aB.get rfl) hg) rfl) fun bH ab _ => ?_)
 refine sqv ab rfl (r_pick_and (g := (true && (((decide (a = 1)) && (decide (b ≤ 300))) == true))) (ab.get rfl) (ab.get rfl) (fun he => g_mkt rfl he)) fun _ aC => sqv aC rfl (r_move (aC.get rfl)) fun _ aD => ?_
 refine sq (opk_gval aD rfl rfl (g := true) (e := (((decide (a = 1)) && (decide (b ≤ 300))) && (decide (c ≤ 60)))) rfl (fun hg => r_fieldAddr (aD.get rfl) Tryz.underlying28 rfl ti_9 (by decide)) fun bI aG _ => ?_)
 refine sq (opk_gval aG rfl rfl (g := true) (e := (((decide (a = 1)) && (decide (b ≤ 300))) && (decide (c ≤ 60)))) rfl (fun hg => r_load1 tU9 rfl (cv_get (aG.get rfl) hg) (u.cell 1 _ rfl)) fun bJ aH _ => ?_)
 refine sq (opk_gval aH rfl rfl (g := true) (e := (((decide (a = 1)) && (decide (b ≤ 300))) && (decide (c ≤ 60)))) rfl (fun hg => r_fieldAddr (aH.get rfl) Tryz.underlying28 rfl ti_9 (by decide)) fun bK aI _ => ?_)
 refine sq (opk_gval aI rfl rfl (g := true) (e := (((decide (a = 1)) && (decide (b ≤ 300))) && (decide (c ≤ 60)))) rfl (fun hg => r_load1 tU9 rfl (cv_get (aI.get rfl) hg) (u.cell 2 _ rfl)) fun bL ad _ => ?_)
 refine sq (opk_gnew2 (fun B => .slice (some ⟨B,0,none⟩) 2 2) ad rfl rfl (g := true) (e := (((decide (a = 1)) && (decide (b ≤ 300))) && (decide (c ≤ 60)))) rfl (fun hg => r_buildSlice (vs := #[(0,.string (Bs f)),(1,.string (Bs h))]) (cs := [.string (Bs f),.string (Bs h)]) (map_arr2 (ml2_cons (cv_get (ad.get rfl) hg) (ml2_cons (cv_get (ad.get rfl) hg) (ml2_nil)))) tU44 ti_9 rfl rfl (by kernel_rfl)) fun bM l p aJ aK bb aL _ => ?_)
 have bd := fun hg => (bb hg).2
 have bN : r ≠ p := Nat.ne_of_lt (Nat.lt_of_lt_of_le u.lt aK)
 have bf : o.heap.size ≤ p := aK
 have bg := u.ext aJ
 have bi : Chg [] o l := aJ
 have bj := ba l    bi
 have bk := bj p bf (fun hp => bd ((g_mkt rfl (b_and_mk ⟨(b_and_mk ⟨(decide_eq_true hp.1.1),(decide_eq_true hp.1.2)⟩),(decide_eq_true hp.2)⟩))))
 obtain ⟨j,bl,bo⟩ := bk
 refine sq (opk_gcall aL rfl rfl (g := true) (e := (((decide (a = 1)) && (decide (b ≤ 300))) && (decide (c ≤ 60)))) rfl (fun hg => r_call (args := #[Sl.v (Sl.mk (some ⟨p,0,none⟩) 2 2)]) Tryz.func40 (by decide) rfl (map_arr (ml_cons (cv_get (aL.get rfl) hg) ml_nil)) rfl) (fun hg => bl ⟨⟨(of_decide_eq_true (b_and_t (b_and_t (g_t hg)).1).1),(of_decide_eq_true (b_and_t (b_and_t (g_t hg)).1).2)⟩,(of_decide_eq_true (b_and_t (g_t hg)).2)⟩) fun bO q af _ ag => ?_)
 have ah := bg.ext ag
 have bP : Chg [] l q := ag
 have bp := bo q ag
 refine sqv af rfl (r_pick_and (g := (true && ((((decide (a = 1)) && (decide (b ≤ 300))) && (decide (c ≤ 60))) == true))) (af.get rfl) (af.get rfl) (fun he => g_mkt rfl he)) fun _ aM => sqv aM rfl (r_move (aM.get rfl)) fun _ aN => ?_
 refine sq (opk_gval aN rfl rfl (g := true) (e := ((((decide (a = 1)) && (decide (b ≤ 300))) && (decide (c ≤ 60))) && j)) rfl (fun hg => r_fieldAddr (aN.get rfl) Tryz.underlying28 rfl ti_25 (by decide)) fun bQ aO _ => ?_)
 refine sq (opk_gval aO rfl rfl (g := true) (e := ((((decide (a = 1)) && (decide (b ≤ 300))) && (decide (c ≤ 60))) && j)) rfl (fun hg => r_load1 tU25 rfl (cv_get (aO.get rfl) hg) (ah.cell 3 _ rfl)) fun bR aP _ => ?_)
 refine sq (opk_gval aP rfl rfl (g := true) (e := ((((decide (a = 1)) && (decide (b ≤ 300))) && (decide (c ≤ 60))) && j)) rfl (fun hg => r_len (cv_get (aP.get rfl) hg) tU25) fun bS aQ _ => ?_)
 refine sq (opk_gval aQ rfl rfl (g := true) (e := ((((decide (a = 1)) && (decide (b ≤ 300))) && (decide (c ≤ 60))) && j)) rfl (fun hg => r_eql (cv_get (aQ.get rfl) hg) rfl) fun bT ai _ => ?_)
 refine sqv ai rfl (r_pick_and (g := (true && (((((decide (a = 1)) && (decide (b ≤ 300))) && (decide (c ≤ 60))) && j) == true))) (ai.get rfl) (ai.get rfl) (fun he => g_mkt rfl he)) fun _ aR => sqv aR rfl (r_move (aR.get rfl)) fun _ aS => ?_
 refine sq (opk_gval aS rfl rfl (g := true) (e := (((((decide (a = 1)) && (decide (b ≤ 300))) && (decide (c ≤ 60))) && j) && (decide ((d.n : Int) = 0)))) rfl (fun hg => r_loadN (cs := [.int .i64 a,.string (Bs f),.string (Bs h),Sl.v d,Sl.v i]) Tryz.underlying28 rfl ti_28 (aS.get rfl) (ah.part 0 _ rfl)) fun bU aU _ => ?_)
 obtain ⟨s,bq,bs⟩ := bp
 refine sq (opk_gcall aU rfl rfl (g := true) (e := (((((decide (a = 1)) && (decide (b ≤ 300))) && (decide (c ≤ 60))) && j) && (decide ((d.n : Int) = 0)))) rfl (fun hg => r_call (args := #[.agg #[.int .i64 a,.string (Bs f),.string (Bs h),Sl.v d,Sl.v i]]) Tryz.func41 (by decide) rfl (map_arr (ml_cons (cv_get (aU.get rfl) hg) ml_nil)) rfl) (fun hg => bq ⟨⟨⟨⟨(of_decide_eq_true (b_and_t (b_and_t (b_and_t (b_and_t (g_t hg)).1).1).1).1),(of_decide_eq_true (b_and_t (b_and_t (b_and_t (b_and_t (g_t hg)).1).1).1).2)⟩,(of_decide_eq_true (b_and_t (b_and_t (b_and_t (g_t hg)).1).1).2)⟩,(b_and_t (b_and_t (g_t hg)).1).2⟩,(of_decide_eq_true (b_and_t (g_t hg)).2)⟩) fun bX t aj _ ak => ?_)
 have bY := ah.ext ak
 have bZ : Chg [] q t := ak
 have bt := bs t ak
 refine sqv aj rfl (r_pick_and (g := (true && ((((((decide (a = 1)) && (decide (b ≤ 300))) && (decide (c ≤ 60))) && j) && (decide ((d.n : Int) = 0))) == true))) (aj.get rfl) (aj.get rfl) (fun he => g_mkt rfl he)) fun _ aV => sqv aV rfl (r_assign (aV.get rfl)) fun _ bu => sq_end ?_
 have aX := bu.kp [(2,.bool ((((((decide (a = 1)) && (decide (b ≤ 300))) && (decide (c ≤ 60))) && j) && (decide ((d.n : Int) = 0))) && s))] rfl
 refine then_normal ?_
 refine wp_ret ?_
 exact res_all (vs := [.bool ((((((decide (a = 1)) && (decide (b ≤ 300))) && (decide (c ≤ 60))) && j) && (decide ((d.n : Int) = 0))) && s)]) rfl aX ⟨res_of_tmp aX rfl,trivial⟩ bt
def tree_Name.vc (b : Str) (R : Value → World → Prop) (w : World) : Prop :=
(((b = ([] : Str)) ∨ (32 < (b.length : Int))) →
R (.bool false) w) ∧
(((¬ (b = ([] : Str))) ∧ (¬ (32 < (b.length : Int)))) →
∃ (f : Int → World → Prop) (g : Int → World → Nat),
f 0 w ∧
(∀ (a : Int) (c : World),f a c →
((a < (b.length : Int)) →
((0 : Int) ≤ a ∧ a < (b.length : Int)) ∧
(((((b.getD a.toNat 0).toNat : Int) = 9) ∨ ((((b.getD a.toNat 0).toNat : Int) = 10) ∨ ((((b.getD a.toNat 0).toNat : Int) = 12) ∨ ((((b.getD a.toNat 0).toNat : Int) = 32) ∨ ((((b.getD a.toNat 0).toNat : Int) = 0) ∨ ((((b.getD a.toNat 0).toNat : Int) = 34) ∨ ((((b.getD a.toNat 0).toNat : Int) = 39) ∨ ((((b.getD a.toNat 0).toNat : Int) = 62) ∨ ((((b.getD a.toNat 0).toNat : Int) = 47) ∨ ((((b.getD a.toNat 0).toNat : Int) = 61) ∨ (((b.getD a.toNat 0).toNat : Int) = 60))))))))))) →
R (.bool false) c) ∧
(((¬ (((b.getD a.toNat 0).toNat : Int) = 9)) ∧ ((¬ (((b.getD a.toNat 0).toNat : Int) = 10)) ∧ ((¬ (((b.getD a.toNat 0).toNat : Int) = 12)) ∧ ((¬ (((b.getD a.toNat 0).toNat : Int) = 32)) ∧ ((¬ (((b.getD a.toNat 0).toNat : Int) = 0)) ∧ ((¬ (((b.getD a.toNat 0).toNat : Int) = 34)) ∧ ((¬ (((b.getD a.toNat 0).toNat : Int) = 39)) ∧ ((¬ (((b.getD a.toNat 0).toNat : Int) = 62)) ∧ ((¬ (((b.getD a.toNat 0).toNat : Int) = 47)) ∧ ((¬ (((b.getD a.toNat 0).toNat : Int) = 61)) ∧ (¬ (((b.getD a.toNat 0).toNat : Int) = 60)))))))))))) →
(((65 ≤ ((b.getD a.toNat 0).toNat : Int)) ∧ (((b.getD a.toNat 0).toNat : Int) ≤ 90)) →
R (.bool false) c) ∧
(((¬ (65 ≤ ((b.getD a.toNat 0).toNat : Int))) ∨ (¬ (((b.getD a.toNat 0).toNat : Int) ≤ 90))) →
(I64 (a + 1)) ∧
f (a + 1) c ∧ g (a + 1) c < g a c))) ∧
((¬ (a < (b.length : Int))) →
R (.bool true) c)))
theorem tree_Name.ok (b : Str) {R : Value → World → Prop} {w : World} (i : tree_Name.vc b R w) : Calls Tryz.prog 31 #[.string (Bs b)] w (Ret R) := by
 refine go _ Tryz.func31 Tryz.ntmps31 i ?_
 refine gS <| gR <| gN <| ge <| tn <| gS <| gS <| gR ?_
 refine gM ?_
 refine g2 r_seql ?_
 refine gM ?_
 refine G1 r_move ?_
 refine G1 (fun d => r_slen d tU9) ?_
 refine G2 r_gtr ?_
 refine gpo <| ge <| tn ?_
 refine gi (fun h => ((oT h).imp (fun h => (dT h)) (fun h => (dT h)))) (fun h => ⟨(dF (oF h).1),(dF (oF h).2)⟩) ?_ ?_
 ·refine gS <| gR <| gN <| ge <| tn <| gr <| tr ?_
  exact gz1
 ·refine gk <| tn <| gS <| gS <| gR <| gM ?_
  refine g1 (fun d => r_slen d tU9) ?_
  refine gM <| ge <| tn <| gb <| gE fun _ => gE fun mu => ?_
  refine l1 mu (fun a => [(14,.int .i64 a)]) [(0,_),(13,_)] (fun _ => []) [] [] fun a c _ => gS <| gR ?_
  refine g2 r_lss <| ge <| tn <| gS ?_
  refine gi dT dF ?_ ?_
  ·refine gk <| tn <| gS <| gb <| gS <| gR <| gM ?_
   refine gN <| ge <| tn <| gS <| gR ?_
   refine gM ?_
   refine gM ?_
   refine g2s (fun d j h => r_sindex d j tU9 h) ?_
   refine gN <| ge <| tn <| gS <| gR ?_
   refine gM <| ge <| tn <| gb <| gS <| gS <| gR ?_
   refine g2 r_eql ?_
   refine gN <| ge <| tn ?_
   refine gp [(27,.bool ((decide (((b.getD a.toNat 0).toNat : Int) = 9)) || ((decide (((b.getD a.toNat 0).toNat : Int) = 10)) || ((decide (((b.getD a.toNat 0).toNat : Int) = 12)) || ((decide (((b.getD a.toNat 0).toNat : Int) = 32)) || ((decide (((b.getD a.toNat 0).toNat : Int) = 0)) || ((decide (((b.getD a.toNat 0).toNat : Int) = 34)) || ((decide (((b.getD a.toNat 0).toNat : Int) = 39)) || ((decide (((b.getD a.toNat 0).toNat : Int) = 62)) || ((decide (((b.getD a.toNat 0).toNat : Int) = 47)) || ((decide (((b.getD a.toNat 0).toNat : Int) = 61)) || (decide (((b.getD a.toNat 0).toNat : Int) = 60)))))))))))))] [(0,_),(4,_),(13,_),(14,_)] (fun hc => ?_) (fun hc => ?_) ?_
   ·exact gk <| gp' ⟨by rw [hc]; rfl,trivial⟩
   ·refine gS <| gR <| g2 r_eql ?_
    refine gN <| ge <| tn ?_
    refine gp [(27,.bool ((decide (((b.getD a.toNat 0).toNat : Int) = 10)) || ((decide (((b.getD a.toNat 0).toNat : Int) = 12)) || ((decide (((b.getD a.toNat 0).toNat : Int) = 32)) || ((decide (((b.getD a.toNat 0).toNat : Int) = 0)) || ((decide (((b.getD a.toNat 0).toNat : Int) = 34)) || ((decide (((b.getD a.toNat 0).toNat : Int) = 39)) || ((decide (((b.getD a.toNat 0).toNat : Int) = 62)) || ((decide (((b.getD a.toNat 0).toNat : Int) = 47)) || ((decide (((b.getD a.toNat 0).toNat : Int) = 61)) || (decide (((b.getD a.toNat 0).toNat : Int) = 60))))))))))))] [(0,_),(4,_),(13,_),(14,_)] (fun hc => ?_) (fun hc => ?_) ?_
    ·exact gk <| gp' ⟨by rw [hc]; rfl,trivial⟩
    ·refine gS <| gR <| g2 r_eql ?_
     refine gN <| ge <| tn ?_
     refine gp [(27,.bool ((decide (((b.getD a.toNat 0).toNat : Int) = 12)) || ((decide (((b.getD a.toNat 0).toNat : Int) = 32)) || ((decide (((b.getD a.toNat 0).toNat : Int) = 0)) || ((decide (((b.getD a.toNat 0).toNat : Int) = 34)) || ((decide (((b.getD a.toNat 0).toNat : Int) = 39)) || ((decide (((b.getD a.toNat 0).toNat : Int) = 62)) || ((decide (((b.getD a.toNat 0).toNat : Int) = 47)) || ((decide (((b.getD a.toNat 0).toNat : Int) = 61)) || (decide (((b.getD a.toNat 0).toNat : Int) = 60)))))))))))] [(0,_),(4,_),(13,_),(14,_)] (fun hc => ?_) (fun hc => ?_) ?_
     ·exact gk <| gp' ⟨by rw [hc]; rfl,trivial⟩
     ·refine gS <| gR <| g2 r_eql ?_
      refine gN <| ge <| tn ?_
      refine gp [(27,.bool ((decide (((b.getD a.toNat 0).toNat : Int) = 32)) || ((decide (((b.getD a.toNat 0).toNat : Int) = 0)) || ((decide (((b.getD a.toNat 0).toNat : Int) = 34)) || ((decide (((b.getD a.toNat 0).toNat : Int) = 39)) || ((decide (((b.getD a.toNat 0).toNat : Int) = 62)) || ((decide (((b.getD a.toNat 0).toNat : Int) = 47)) || ((decide (((b.getD a.toNat 0).toNat : Int) = 61)) || (decide (((b.getD a.toNat 0).toNat : Int) = 60))))))))))] [(0,_),(4,_),(13,_),(14,_)] (fun hc => ?_) (fun hc => ?_) ?_
      ·exact gk <| gp' ⟨by rw [hc]; rfl,trivial⟩
      ·refine gS <| gR <| g2 r_eql ?_
       refine gN <| ge <| tn ?_
       refine gp [(27,.bool ((decide (((b.getD a.toNat 0).toNat : Int) = 0)) || ((decide (((b.getD a.toNat 0).toNat : Int) = 34)) || ((decide (((b.getD a.toNat 0).toNat : Int) = 39)) || ((decide (((b.getD a.toNat 0).toNat : Int) = 62)) || ((decide (((b.getD a.toNat 0).toNat : Int) = 47)) || ((decide (((b.getD a.toNat 0).toNat : Int) = 61)) || (decide (((b.getD a.toNat 0).toNat : Int) = 60)))))))))] [(0,_),(4,_),(13,_),(14,_)] (fun hc => ?_) (fun hc => ?_) ?_
       ·exact gk <| gp' ⟨by rw [hc]; rfl,trivial⟩
       ·refine gS <| gR <| g2 r_eql ?_
        refine gN <| ge <| tn ?_
        refine gp [(27,.bool ((decide (((b.getD a.toNat 0).toNat : Int) = 34)) || ((decide (((b.getD a.toNat 0).toNat : Int) = 39)) || ((decide (((b.getD a.toNat 0).toNat : Int) = 62)) || ((decide (((b.getD a.toNat 0).toNat : Int) = 47)) || ((decide (((b.getD a.toNat 0).toNat : Int) = 61)) || (decide (((b.getD a.toNat 0).toNat : Int) = 60))))))))] [(0,_),(4,_),(13,_),(14,_)] (fun hc => ?_) (fun hc => ?_) ?_
        ·exact gk <| gp' ⟨by rw [hc]; rfl,trivial⟩
        ·refine gS <| gR <| g2 r_eql ?_
         refine gN <| ge <| tn ?_
         refine gp [(27,.bool ((decide (((b.getD a.toNat 0).toNat : Int) = 39)) || ((decide (((b.getD a.toNat 0).toNat : Int) = 62)) || ((decide (((b.getD a.toNat 0).toNat : Int) = 47)) || ((decide (((b.getD a.toNat 0).toNat : Int) = 61)) || (decide (((b.getD a.toNat 0).toNat : Int) = 60)))))))] [(0,_),(4,_),(13,_),(14,_)] (fun hc => ?_) (fun hc => ?_) ?_
         ·exact gk <| gp' ⟨by rw [hc]; rfl,trivial⟩
         ·refine gS <| gR <| g2 r_eql ?_
          refine gN <| ge <| tn ?_
          refine gp [(27,.bool ((decide (((b.getD a.toNat 0).toNat : Int) = 62)) || ((decide (((b.getD a.toNat 0).toNat : Int) = 47)) || ((decide (((b.getD a.toNat 0).toNat : Int) = 61)) || (decide (((b.getD a.toNat 0).toNat : Int) = 60))))))] [(0,_),(4,_),(13,_),(14,_)] (fun hc => ?_) (fun hc => ?_) ?_
          ·exact gk <| gp' ⟨by rw [hc]; rfl,trivial⟩
          ·refine gS <| gR <| g2 r_eql ?_
           refine gN <| ge <| tn ?_
           refine gp [(27,.bool ((decide (((b.getD a.toNat 0).toNat : Int) = 47)) || ((decide (((b.getD a.toNat 0).toNat : Int) = 61)) || (decide (((b.getD a.toNat 0).toNat : Int) = 60)))))] [(0,_),(4,_),(13,_),(14,_)] (fun hc => ?_) (fun hc => ?_) ?_
           ·exact gk <| gp' ⟨by rw [hc]; rfl,trivial⟩
           ·refine gS <| gR <| g2 r_eql ?_
            refine gN <| ge <| tn ?_
            refine gp [(27,.bool ((decide (((b.getD a.toNat 0).toNat : Int) = 61)) || (decide (((b.getD a.toNat 0).toNat : Int) = 60))))] [(0,_),(4,_),(13,_),(14,_)] (fun hc => ?_) (fun hc => ?_) ?_
            ·exact gk <| gp' ⟨by rw [hc]; rfl,trivial⟩
            ·refine gR <| g2 r_eql ?_
             refine gN <| ge ?_
             exact gp' ⟨by rw [hc]; rfl,trivial⟩
            ·exact gp' ⟨by rw [hc]; rfl,trivial⟩
           ·exact gp' ⟨by rw [hc]; rfl,trivial⟩
          ·exact gp' ⟨by rw [hc]; rfl,trivial⟩
         ·exact gp' ⟨by rw [hc]; rfl,trivial⟩
        ·exact gp' ⟨by rw [hc]; rfl,trivial⟩
       ·exact gp' ⟨by rw [hc]; rfl,trivial⟩
      ·exact gp' ⟨by rw [hc]; rfl,trivial⟩
     ·exact gp' ⟨by rw [hc]; rfl,trivial⟩
    ·exact gp' ⟨by rw [hc]; rfl,trivial⟩
   ·refine tn ?_
    refine gi (fun h => ((oT h).imp (fun h => (dT h)) (fun h => ((oT h).imp (fun h => (dT h)) (fun h => ((oT h).imp (fun h => (dT h)) (fun h => ((oT h).imp (fun h => (dT h)) (fun h => ((oT h).imp (fun h => (dT h)) (fun h => ((oT h).imp (fun h => (dT h)) (fun h => ((oT h).imp (fun h => (dT h)) (fun h => ((oT h).imp (fun h => (dT h)) (fun h => ((oT h).imp (fun h => (dT h)) (fun h => ((oT h).imp (fun h => (dT h)) (fun h => (dT h)))))))))))))))))))))) (fun h => ⟨(dF (oF h).1),⟨(dF (oF (oF h).2).1),⟨(dF (oF (oF (oF h).2).2).1),⟨(dF (oF (oF (oF (oF h).2).2).2).1),⟨(dF (oF (oF (oF (oF (oF h).2).2).2).2).1),⟨(dF (oF (oF (oF (oF (oF (oF h).2).2).2).2).2).1),⟨(dF (oF (oF (oF (oF (oF (oF (oF h).2).2).2).2).2).2).1),⟨(dF (oF (oF (oF (oF (oF (oF (oF (oF h).2).2).2).2).2).2).2).1),⟨(dF (oF (oF (oF (oF (oF (oF (oF (oF (oF h).2).2).2).2).2).2).2).2).1),⟨(dF (oF (oF (oF (oF (oF (oF (oF (oF (oF (oF h).2).2).2).2).2).2).2).2).2).1),(dF (oF (oF (oF (oF (oF (oF (oF (oF (oF (oF h).2).2).2).2).2).2).2).2).2).2)⟩⟩⟩⟩⟩⟩⟩⟩⟩⟩) ?_ ?_
    ·refine gS <| gR <| gN <| ge <| tn <| gr <| br <| br <| tr <| tr <| br <| tr ?_
     exact gz1
    ·refine gS <| gR <| gM ?_
     refine g2 r_geq ?_
     refine gM ?_
     refine G1 r_move ?_
     refine G2 r_leq ?_
     refine gpa <| ge <| tn ?_
     refine gi (fun h => ⟨(dT (aT h).1),(dT (aT h).2)⟩) (fun h => ((aF h).imp (fun h => (dF h)) (fun h => (dF h)))) ?_ ?_
     ·refine gS <| gR <| gN <| ge <| tn <| gr <| br <| br <| tr <| tr <| br <| tr ?_
      exact gz1
     ·refine gk <| bn <| bn <| tn <| gR <| g2s r_addI ?_
      refine gM <| ge ?_
      exact k1 []
  ·refine gx <| te <| te <| bh <| tn <| gS <| gR <| gN <| ge <| tn <| gr ?_
   exact gz1
def tree_Size.vc (j : Int) (k : Str) (l : Str) (m : Sl) (d : Sl) (R : Value → World → Prop) (w : World) : Prop :=
∀ (h : World) (z : Nat),New w z h → Chg [] w h →
∃ (o : Int → Int → World → Prop) (aa : Int → Int → World → Nat),
o 1 0 h ∧
(∀ (c : Int) (b : Int) (f : World),o c b f →
((b < (d.n : Int)) →
((0 : Int) ≤ b ∧ b < (d.n : Int)) ∧ ∃ p : Addr,d.a = some p ∧
∃ (q : Int) (r : Str) (s : Str) (t : Sl) (u : Sl),(Cells f (p.add (b.toNat * 5)) [.int .i64 q,.string (Bs r),.string (Bs s),Sl.v t,Sl.v u]) ∧
∀ (i : World) (x : Nat),New f x i → Chg [] f i →
CallK Tryz.prog 38 #[.agg #[.int .i64 q,.string (Bs r),.string (Bs s),Sl.v t,Sl.v u]] i [x] (fun v y => ∃ (g : Int),v = .int .i64 g ∧
(I64 (c + g)) ∧
(I64 (b + 1)) ∧
o (c + g) (b + 1) y ∧ aa (c + g) (b + 1) y < aa c b f)) ∧
((¬ (b < (d.n : Int))) →
R (.int .i64 c) f))
theorem tree_Size.ok (j : Int) (k : Str) (l : Str) (m : Sl) (d : Sl) {R : Value → World → Prop} {w : World} (ab : tree_Size.vc j k l m d R w) : Calls Tryz.prog 38 #[.agg #[.int .i64 j,.string (Bs k),.string (Bs l),Sl.v m,Sl.v d]] w (Ret R) := by
 refine go _ Tryz.func38 Tryz.ntmps38 ab ?_
 refine gS <| gR <| nb fun h z => ?_
 refine gN <| ge <| tn <| gS <| gR ?_
 refine gN <| ge <| tn <| gS <| gS <| gR ?_
 refine gF 4 Tryz.underlying28 ti_26 ?_
 refine gB 0 tU26 ?_
 refine g1 (fun ad => r_len ad tU26) ?_
 refine gM <| ge <| tn <| gb <| gT1 <| gE fun _ => gE fun mu => ?_
 refine l2 mu (fun c b => [(3,.int .i64 c),(9,.int .i64 b)]) [(7,_),(8,_)] (fun _ _ => []) [] [] fun c b f _ => gS <| gR ?_
 refine g2 r_lss <| ge <| tn <| gS ?_
 refine gi dT dF ?_ ?_
 ·refine gk <| tn <| gS <| gb <| gS <| gR <| gI1 tU26 ti_28 fun p => ?_
  refine gE fun q => gE fun r => gE fun s => gE fun t => gE fun u => gLN Tryz.underlying28 ti_28 ?_
  refine na ti_28 fun af x => ?_
  refine wn 0 0 ti_28 fun i => ge <| tn <| gR ?_
  refine gM ?_
  refine gBN 0 5 Tryz.underlying28 ti_28 <| gT1 ?_
  refine gC [0] Tryz.func38 fun _ y => gE fun g => gQ ?_
  refine g2s r_addI ?_
  refine gN <| ge <| bn <| tn <| gR ?_
  refine g2s r_addI ?_
  refine gM <| ge ?_
  exact k2 []
 ·refine gx <| te <| te <| bh <| tn <| gS <| gR <| gM ?_
  refine gN <| ge <| tn <| gr ?_
  exact gz1
def tree_Depth.vc (j : Int) (k : Str) (l : Str) (m : Sl) (d : Sl) (R : Value → World → Prop) (w : World) : Prop :=
∀ (g : World) (z : Nat),New w z g → Chg [] w g →
∃ (o : Int → Int → World → Prop) (aa : Int → Int → World → Nat),
o 0 0 g ∧
(∀ (c : Int) (b : Int) (f : World),o c b f →
((b < (d.n : Int)) →
((0 : Int) ≤ b ∧ b < (d.n : Int)) ∧ ∃ p : Addr,d.a = some p ∧
∃ (q : Int) (r : Str) (s : Str) (t : Sl) (u : Sl),(Cells f (p.add (b.toNat * 5)) [.int .i64 q,.string (Bs r),.string (Bs s),Sl.v t,Sl.v u]) ∧
∀ (h : World) (x : Nat),New f x h → Chg [] f h →
CallK Tryz.prog 39 #[.agg #[.int .i64 q,.string (Bs r),.string (Bs s),Sl.v t,Sl.v u]] h [x] (fun v y => ∃ (i : Int),v = .int .i64 i ∧
(I64 (b + 1)) ∧
o (max c i) (b + 1) y ∧ aa (max c i) (b + 1) y < aa c b f)) ∧
((¬ (b < (d.n : Int))) →
(I64 (c + 1)) ∧
R (.int .i64 (c + 1)) f))
theorem tree_Depth.ok (j : Int) (k : Str) (l : Str) (m : Sl) (d : Sl) {R : Value → World → Prop} {w : World} (ab : tree_Depth.vc j k l m d R w) : Calls Tryz.prog 39 #[.agg #[.int .i64 j,.string (Bs k),.string (Bs l),Sl.v m,Sl.v d]] w (Ret R) := by
 refine go _ Tryz.func39 Tryz.ntmps39 ab ?_
 refine gS <| gR <| nb fun g z => ?_
 refine gN <| ge <| tn <| gS <| gR ?_
 refine gN <| ge <| tn <| gS <| gS <| gR ?_
 refine gF 4 Tryz.underlying28 ti_26 ?_
 refine gB 0 tU26 ?_
 refine g1 (fun ad => r_len ad tU26) ?_
 refine gM <| ge <| tn <| gb <| gT1 <| gE fun _ => gE fun mu => ?_
 refine l2 mu (fun c b => [(3,.int .i64 c),(9,.int .i64 b)]) [(7,_),(8,_)] (fun _ _ => []) [] [] fun c b f _ => gS <| gR ?_
 refine g2 r_lss <| ge <| tn <| gS ?_
 refine gi dT dF ?_ ?_
 ·refine gk <| tn <| gS <| gb <| gS <| gR <| gI1 tU26 ti_28 fun p => ?_
  refine gE fun q => gE fun r => gE fun s => gE fun t => gE fun u => gLN Tryz.underlying28 ti_28 ?_
  refine na ti_28 fun af x => ?_
  refine wn 0 0 ti_28 fun h => ge <| tn <| gR ?_
  refine gM ?_
  refine gBN 0 5 Tryz.underlying28 ti_28 <| gT1 ?_
  refine gC [0] Tryz.func39 fun _ y => gE fun i => gQ ?_
  refine g2 r_max ?_
  refine gN <| ge <| bn <| tn <| gR ?_
  refine g2s r_addI ?_
  refine gM <| ge ?_
  exact k2 []
 ·refine gx <| te <| te <| bh <| tn <| gS <| gR <| gM ?_
  refine g2s r_addI ?_
  refine gN <| ge <| tn <| gr ?_
  exact gz1
def tree_empty.vc (d : Sl) (R : Value → World → Prop) (w : World) : Prop :=
∃ (g : Int → World → Prop) (i : Int → World → Nat),
g 0 w ∧
(∀ (b : Int) (c : World),g b c →
((b < (d.n : Int)) →
((0 : Int) ≤ b ∧ b < (d.n : Int)) ∧ ∃ h : Addr,d.a = some h ∧
∃ (f : Str),(c.cell? (h.add (b.toNat * 1)) = some (.string (Bs f))) ∧
((f ≠ ([] : Str)) →
R (.bool false) c) ∧
((¬ (f ≠ ([] : Str))) →
(I64 (b + 1)) ∧
g (b + 1) c ∧ i (b + 1) c < i b c)) ∧
((¬ (b < (d.n : Int))) →
R (.bool true) c))
theorem tree_empty.ok (d : Sl) {R : Value → World → Prop} {w : World} (j : tree_empty.vc d R w) : Calls Tryz.prog 40 #[Sl.v d] w (Ret R) := by
 refine go _ Tryz.func40 Tryz.ntmps40 j ?_
 refine gS <| gR <| gN <| ge <| tn <| gS <| gS <| gR ?_
 refine gM ?_
 refine g1 (fun k => r_len k tU44) ?_
 refine gM <| ge <| tn <| gb <| gE fun _ => gE fun mu => ?_
 refine l1 mu (fun b => [(7,.int .i64 b)]) [(5,_),(6,_)] (fun _ => []) [] [] fun b c _ => gS <| gR ?_
 refine g2 r_lss <| ge <| tn <| gS ?_
 refine gi dT dF ?_ ?_
 ·refine gk <| tn <| gS <| gb <| gS <| gR <| gI1 tU44 ti_9 fun h => ?_
  refine gE fun f => gL tU9 ?_
  refine gN <| ge <| tn <| gS <| gR ?_
  refine gM ?_
  refine g2 r_sneq <| ge <| tn ?_
  refine gi dT dF ?_ ?_
  ·refine gS <| gR <| gN <| ge <| tn <| gr <| br <| tr <| tr <| br <| tr ?_
   exact gz1
  ·refine gk <| bn <| tn <| gR <| g2s r_addI ?_
   refine gM <| ge ?_
   exact k1 []
 ·refine gx <| te <| te <| bh <| tn <| gS <| gR <| gN <| ge <| tn <| gr ?_
  exact gz1
def tree_kids.vc (f : Int) (o : Str) (p : Str) (q : Sl) (c : Sl) (R : Value → World → Prop) (w : World) : Prop :=
∀ (i : World) (j : Nat),New w j i → Chg [] w i →
∃ (r : Int → World → Prop) (aa : Int → World → Nat),
r 0 i ∧
(∀ (b : Int) (d : World),r b d →
((b < (c.n : Int)) →
((0 : Int) ≤ b ∧ b < (c.n : Int)) ∧ ∃ s : Addr,c.a = some s ∧
∃ (g : Int) (t : Str) (u : Str) (x : Sl) (y : Sl),(Cells d (s.add (b.toNat * 5)) [.int .i64 g,.string (Bs t),.string (Bs u),Sl.v x,Sl.v y]) ∧
∀ (k : World) (z : Nat),New d z k → Chg [] d k →
CallK Tryz.prog 76 #[.agg #[.int .i64 g,.string (Bs t),.string (Bs u),Sl.v x,Sl.v y]] k [j,z] (fun v l => ∃ (m : Bool),v = .bool m ∧
(((m = false) ∨ ((g = 5) ∧ (f ≠ 1))) →
R (.bool false) l) ∧
(((m = true) ∧ ((¬ (g = 5)) ∨ (¬ (f ≠ 1)))) →
(I64 (b + 1)) ∧
r (b + 1) l ∧ aa (b + 1) l < aa b d))) ∧
((¬ (b < (c.n : Int))) →
R (.bool true) d))
theorem tree_kids.ok (f : Int) (o : Str) (p : Str) (q : Sl) (c : Sl) {R : Value → World → Prop} {w : World} (ab : tree_kids.vc f o p q c R w) : Calls Tryz.prog 41 #[.agg #[.int .i64 f,.string (Bs o),.string (Bs p),Sl.v q,Sl.v c]] w (Ret R) := by
 refine go _ Tryz.func41 Tryz.ntmps41 ab ?_
 refine gS <| gR <| nb fun i j => ?_
 refine gN <| ge <| tn <| gS <| gS <| gR ?_
 refine gF 4 Tryz.underlying28 ti_26 ?_
 refine gB 0 tU26 ?_
 refine g1 (fun ad => r_len ad tU26) ?_
 refine gM <| ge <| tn <| gb <| gT1 <| gE fun _ => gE fun mu => ?_
 refine l1 mu (fun b => [(8,.int .i64 b)]) [(1,_),(6,_),(7,_)] (fun _ => []) [(j,_,_)] [0] fun b d _ => gS <| gR ?_
 refine g2 r_lss <| ge <| tn <| gS ?_
 refine gi dT dF ?_ ?_
 ·refine gk <| tn <| gS <| gb <| gS <| gR <| gI1 tU26 ti_28 fun s => ?_
  refine gE fun g => gE fun t => gE fun u => gE fun x => gE fun y => gLN Tryz.underlying28 ti_28 ?_
  refine na ti_28 fun af z => ?_
  refine wn 0 0 ti_28 fun k => ge <| tn <| gS <| gR ?_
  refine gBN 0 5 Tryz.underlying28 ti_28 <| gT1 ?_
  refine gC [1,0] Tryz.func76 fun _ l => gE fun m => gQ ?_
  refine g1 r_not ?_
  refine gM ?_
  refine GF 0 Tryz.underlying28 ti_3 ?_
  refine GB 0 tU3 ?_
  refine G2 r_eql ?_
  refine G1 r_move ?_
  refine GF 0 Tryz.underlying28 ti_3 ?_
  refine GB 1 tU3 ?_
  refine G2 r_neq ?_
  refine Gpa ?_
  refine gpo <| ge <| tn ?_
  refine gi (fun h => ((oT h).imp (fun h => (nT h)) (fun h => ⟨(dT (aT h).1),(dT (aT h).2)⟩))) (fun h => ⟨(nF (oF h).1),((aF (oF h).2).imp (fun h => (dF h)) (fun h => (dF h)))⟩) ?_ ?_
  ·refine gS <| gR <| gN <| ge <| tn <| gr <| br <| tr <| tr <| br <| tr ?_
   exact gz1
  ·refine gk <| bn <| tn <| gR <| g2s r_addI ?_
   refine gM <| ge ?_
   exact k1 [1]
 ·refine gx <| te <| te <| bh <| tn <| gS <| gR <| gN <| ge <| tn <| gr ?_
  exact gz1
def tree_node.vc (c : Int) (g : Str) (d : Str) (i : Sl) (j : Sl) (R : Value → World → Prop) (w : World) : Prop :=
((c = 2) →
∀ (a : World) (b : Nat),New w b a → Chg [] w a →
CallK Tryz.prog 31 #[.string (Bs g)] a [b] (fun v m => ∃ (k : Bool),v = .bool k ∧
∃ (o : Bool),((((k = true) ∧ (d = ([] : Str)))) → Calls Tryz.prog 117 #[Sl.v i] m (Ret fun v w' => Ext m w' ∧ v = .bool o)) ∧
(∀ l : World,Ext m l →
∃ (p : Bool),(((((k = true) ∧ (d = ([] : Str))) ∧ (o = true))) → Calls Tryz.prog 41 #[.agg #[.int .i64 c,.string (Bs g),.string (Bs d),Sl.v i,Sl.v j]] l (Ret fun v w' => Ext l w' ∧ v = .bool p)) ∧
(∀ q : World,Ext l q →
R (.bool (((k && (decide (d = ([] : Str)))) && o) && p)) q)))) ∧
((¬ (c = 2)) →
(((0 < (i.n : Int)) ∨ (0 < (j.n : Int))) →
∀ (a : World) (b : Nat),New w b a → Chg [] w a →
R (.bool false) a) ∧
(((¬ (0 < (i.n : Int))) ∧ (¬ (0 < (j.n : Int)))) →
((c = 3) →
∀ (a : World) (b : Nat),New w b a → Chg [] w a →
R (.bool (((decide (g = ([] : Str))) && (decide (d ≠ ([] : Str)))) && (decide ((d.length : Int) ≤ 4096)))) a) ∧
((¬ (c = 3)) →
((c = 4) →
∀ (a : World) (b : Nat),New w b a → Chg [] w a →
R (.bool ((decide (g = ([] : Str))) && (decide ((d.length : Int) ≤ 4096)))) a) ∧
((¬ (c = 4)) →
((c = 5) →
∀ (a : World) (b : Nat),New w b a → Chg [] w a →
R (.bool ((decide (d = ([] : Str))) && (decide ((g.length : Int) ≤ 32)))) a) ∧
((¬ (c = 5)) →
∀ (a : World) (b : Nat),New w b a → Chg [] w a →
R (.bool false) a)))))
theorem tree_node.ok (c : Int) (g : Str) (d : Str) (i : Sl) (j : Sl) {R : Value → World → Prop} {w : World} (r : tree_node.vc c g d i j R w) : Calls Tryz.prog 76 #[.agg #[.int .i64 c,.string (Bs g),.string (Bs d),Sl.v i,Sl.v j]] w (Ret R) := by
 refine go _ Tryz.func76 Tryz.ntmps76 r ?_
 refine gS <| gR <| nb fun a b => ?_
 refine gN <| ge <| tn <| gS <| gS <| gR ?_
 refine gF 0 Tryz.underlying28 ti_3 ?_
 refine gB 0 tU3 ?_
 refine g2 r_eql <| ge <| tn ?_
 refine gi dT dF ?_ ?_
 ·refine gS <| gR <| gF 1 Tryz.underlying28 ti_9 ?_
  refine gB 0 tU9 <| gT1 ?_
  refine gC [0] Tryz.func31 fun _ m => gE fun k => gQ ?_
  refine gM ?_
  refine GF 2 Tryz.underlying28 ti_9 ?_
  refine GB 0 tU9 ?_
  refine G2 r_seql ?_
  refine gpa ?_
  refine gM ?_
  refine GF 3 Tryz.underlying28 ti_25 ?_
  refine GB 0 tU25 ?_
  refine gE fun o => GC Tryz.func117 (fun hg => ⟨(aT (g_t hg)).1,(dT (aT (g_t hg)).2)⟩) fun l => ?_
  refine gpa ?_
  refine gM ?_
  refine GBN 0 5 Tryz.underlying28 ti_28 ?_
  refine gE fun p => GC Tryz.func41 (fun hg => ⟨⟨(aT (aT (g_t hg)).1).1,(dT (aT (aT (g_t hg)).1).2)⟩,(aT (g_t hg)).2⟩) fun q => ?_
  refine gpa ?_
  refine gN <| ge <| tn <| gr <| tr ?_
  exact gz1
 ·refine gk <| tn <| gS <| gS <| gR <| gF 3 Tryz.underlying28 ti_25 ?_
  refine gB 0 tU25 ?_
  refine g1 (fun f => r_len f tU25) ?_
  refine g2 r_gtr ?_
  refine gM ?_
  refine GF 4 Tryz.underlying28 ti_26 ?_
  refine GB 0 tU26 ?_
  refine G1 (fun f => r_len f tU26) ?_
  refine G2 r_gtr ?_
  refine gpo <| ge <| tn ?_
  refine gi (fun h => ((oT h).imp (fun h => (dT h)) (fun h => (dT h)))) (fun h => ⟨(dF (oF h).1),(dF (oF h).2)⟩) ?_ ?_
  ·refine gS <| gR <| gN <| ge <| tn <| gr <| tr <| gT1 ?_
   exact gz1
  ·refine gk <| tn <| gS <| gS <| gR <| gF 0 Tryz.underlying28 ti_3 ?_
   refine gB 0 tU3 <| ge <| tn <| gb <| gS <| gR ?_
   refine g2 r_eql ?_
   refine gN <| ge <| tn ?_
   refine gi dT dF ?_ ?_
   ·refine gS <| gR <| gF 1 Tryz.underlying28 ti_9 ?_
    refine gB 0 tU9 ?_
    refine g2 r_seql ?_
    refine gM ?_
    refine GF 2 Tryz.underlying28 ti_9 ?_
    refine GB 0 tU9 ?_
    refine G2 r_sneq ?_
    refine gpa ?_
    refine gM ?_
    refine GF 2 Tryz.underlying28 ti_9 ?_
    refine GB 0 tU9 ?_
    refine G1 (fun f => r_slen f tU9) ?_
    refine G2 r_leq ?_
    refine gpa ?_
    refine gN <| ge <| tn <| gr <| br <| tr <| gT1 ?_
    exact gz1
   ·refine gS <| gR <| g2 r_eql ?_
    refine gN <| ge <| tn ?_
    refine gi dT dF ?_ ?_
    ·refine gS <| gR <| gF 1 Tryz.underlying28 ti_9 ?_
     refine gB 0 tU9 ?_
     refine g2 r_seql ?_
     refine gM ?_
     refine GF 2 Tryz.underlying28 ti_9 ?_
     refine GB 0 tU9 ?_
     refine G1 (fun f => r_slen f tU9) ?_
     refine G2 r_leq ?_
     refine gpa ?_
     refine gN <| ge <| tn <| gr <| br <| tr <| gT1 ?_
     exact gz1
    ·refine gS <| gR <| g2 r_eql ?_
     refine gN <| ge <| tn ?_
     refine gi dT dF ?_ ?_
     ·refine gS <| gR <| gF 2 Tryz.underlying28 ti_9 ?_
      refine gB 0 tU9 ?_
      refine g2 r_seql ?_
      refine gM ?_
      refine GF 1 Tryz.underlying28 ti_9 ?_
      refine GB 0 tU9 ?_
      refine G1 (fun f => r_slen f tU9) ?_
      refine G2 r_leq ?_
      refine gpa ?_
      refine gN <| ge <| tn <| gr <| br <| tr <| gT1 ?_
      exact gz1
     ·refine gk <| bn <| tn <| gS <| gR <| gN <| ge <| tn <| gr <| gT1 ?_
      exact gz1
def tree_attrs.vc (f : Sl) (R : Value → World → Prop) (w : World) : Prop :=
((12 < (f.n : Int)) →
R (.bool false) w) ∧
((¬ (12 < (f.n : Int))) →
∃ (o : Str → Int → World → Prop) (q : Str → Int → World → Nat),
o ([] : Str) 0 w ∧
(∀ (c : Str) (b : Int) (g : World),o c b g →
((b < (f.n : Int)) →
((0 : Int) ≤ b ∧ b < (f.n : Int)) ∧ ∃ p : Addr,f.a = some p ∧
∃ (d : Str) (l : Str),(Cells g (p.add (b.toNat * 2)) [.string (Bs d),.string (Bs l)]) ∧
∀ (i : World) (r : Nat),New g r i → Chg [] g i →
∃ (m : Bool),(((((Op.bytesLess d c) = false) ∧ (¬ (d = c)))) → Calls Tryz.prog 31 #[.string (Bs d)] i (Ret fun v w' => Ext i w' ∧ v = .bool m)) ∧
(∀ j : World,Ext i j →
((((((Op.bytesLess d c) = true) ∨ (d = c)) ∨ (m = false)) ∨ (4096 < (l.length : Int))) →
R (.bool false) j) ∧
((((((Op.bytesLess d c) = false) ∧ (¬ (d = c))) ∧ (m = true)) ∧ (¬ (4096 < (l.length : Int)))) →
(I64 (b + 1)) ∧
o d (b + 1) j ∧ q d (b + 1) j < q c b g))) ∧
((¬ (b < (f.n : Int))) →
R (.bool true) g)))
theorem tree_attrs.ok (f : Sl) {R : Value → World → Prop} {w : World} (s : tree_attrs.vc f R w) : Calls Tryz.prog 117 #[Sl.v f] w (Ret R) := by
 refine go _ Tryz.func117 Tryz.ntmps117 s ?_
 refine gS <| gR <| gN <| ge <| tn <| gS <| gS <| gR ?_
 refine gM ?_
 refine g1 (fun k => r_len k tU25) ?_
 refine g2 r_gtr <| ge <| tn ?_
 refine gi dT dF ?_ ?_
 ·refine gS <| gR <| gN <| ge <| tn <| gr <| tr ?_
  exact gz1
 ·refine gk <| tn <| gS <| gR <| gN <| ge <| tn <| gS <| gS <| gR ?_
  refine gM ?_
  refine g1 (fun k => r_len k tU25) ?_
  refine gM <| ge <| tn <| gb <| gE fun _ => gE fun mu => ?_
  refine l2 mu (fun c b => [(3,.string (Bs c)),(11,.int .i64 b)]) [(9,_),(10,_)] (fun _ _ => []) [] [] fun c b g _ => gS <| gR ?_
  refine g2 r_lss <| ge <| tn <| gS ?_
  refine gi dT dF ?_ ?_
  ·refine gk <| tn <| gS <| gb <| gS <| gR <| gI1 tU25 ti_79 fun p => ?_
   refine gE fun d => gE fun l => gLN Tryz.underlying79 ti_79 ?_
   refine na ti_79 fun t r => ?_
   refine wn 0 0 ti_79 fun i => ge <| tn <| gS <| gS <| gR ?_
   refine gF 0 Tryz.underlying79 ti_9 ?_
   refine gB 0 tU9 ?_
   refine gM ?_
   refine g2 r_sleq ?_
   refine gM ?_
   refine GF 0 Tryz.underlying79 ti_9 ?_
   refine GB 0 tU9 <| gT1 ?_
   refine gE fun m => GC Tryz.func31 (fun hg => ⟨(oF (g_f hg)).1,(dF (oF (g_f hg)).2)⟩) fun j => ?_
   refine G1 r_not ?_
   refine gpo ?_
   refine gM ?_
   refine GF 1 Tryz.underlying79 ti_9 ?_
   refine GB 0 tU9 ?_
   refine G1 (fun k => r_slen k tU9) ?_
   refine G2 r_gtr ?_
   refine gpo <| ge <| tn ?_
   refine gi (fun h => ((oT h).imp (fun h => ((oT h).imp (fun h => ((oT h).imp (fun h => h) (fun h => (dT h)))) (fun h => (nT h)))) (fun h => (dT h)))) (fun h => ⟨⟨⟨(oF (oF (oF h).1).1).1,(dF (oF (oF (oF h).1).1).2)⟩,(nF (oF (oF h).1).2)⟩,(dF (oF h).2)⟩) ?_ ?_
   ·refine gS <| gR <| gN <| ge <| tn <| gr <| tr <| br <| tr <| tr <| br <| tr ?_
    exact gz1
   ·refine gk <| tn <| gR <| gF 0 Tryz.underlying79 ti_9 ?_
    refine gB 0 tU9 ?_
    refine gN <| ge <| bn <| tn <| gR ?_
    refine g2s r_addI ?_
    refine gM <| ge ?_
    exact k2 []
  ·refine gx <| te <| te <| bh <| tn <| gS <| gR <| gN <| ge <| tn <| gr ?_
   exact gz1
end Go.Proofs.YtenokfdkckhhiaaGreatDoor
