/-
  PRINTED BY PROGRAM: for each function its condition (vc), and that this suffices (ok).
-/
import Derived.Test.YteohbfaechfliaaQSlotsAllGT
namespace Go.Proofs.Yteohbfaechfliaa
open Go.RowKit
set_option linter.unusedVariables false
set_option maxHeartbeats 1000000
set_option maxRecDepth 10000
def tree_Check.vc (a : Int) (f : Str) (h : Str) (d : Sl) (i : Sl) (R : Value → World → Prop) (w : World) : Prop :=
∀ (k : World) (r : Nat), New w r k → Chg [] w k →
∃ (b : Int), (((a = 1)) → Calls Try.prog 78 #[.agg #[.int .i64 a, .string (Bs f), .string (Bs h), Sl.v d, Sl.v i]] k (Ret fun v w' => Ext k w' ∧ v = .int .i64 b)) ∧
(∀ m : World, Ext k m →
∃ (c : Int), ((((a = 1) ∧ (b ≤ 300))) → Calls Try.prog 79 #[.agg #[.int .i64 a, .string (Bs f), .string (Bs h), Sl.v d, Sl.v i]] m (Ret fun v w' => Ext m w' ∧ v = .int .i64 c)) ∧
(∀ o : World, Ext m o →
∀ (l : World), Chg [] o l →
∀ (p : Nat) (_ : o.heap.size ≤ p) (_ : ((((a = 1) ∧ (b ≤ 300)) ∧ (c ≤ 60))) → Box l p 9 [.string (Bs f), .string (Bs h)]),
∃ (j : Bool), (((((a = 1) ∧ (b ≤ 300)) ∧ (c ≤ 60))) → Calls Try.prog 80 #[Sl.v (Sl.mk (some ⟨p, 0, none⟩) 2 2)] l (Ret fun v w' => Ext l w' ∧ v = .bool j)) ∧
(∀ q : World, Ext l q →
∃ (s : Bool), (((((((a = 1) ∧ (b ≤ 300)) ∧ (c ≤ 60)) ∧ (j = true)) ∧ ((d.n : Int) = 0))) → Calls Try.prog 81 #[.agg #[.int .i64 a, .string (Bs f), .string (Bs h), Sl.v d, Sl.v i]] q (Ret fun v w' => Ext q w' ∧ v = .bool s)) ∧
(∀ t : World, Ext q t →
R (.bool ((((((decide (a = 1)) && (decide (b ≤ 300))) && (decide (c ≤ 60))) && j) && (decide ((d.n : Int) = 0))) && s)) t))))
theorem tree_Check.ok (a : Int) (f : Str) (h : Str) (d : Sl) (i : Sl) {R : Value → World → Prop} {w : World} (al : tree_Check.vc a f h d i R w) : Calls Try.prog 60 #[.agg #[.int .i64 a, .string (Bs f), .string (Bs h), Sl.v d, Sl.v i]] w (Ret R) := by
 refine enter [.agg #[.int .i64 a, .string (Bs f), .string (Bs h), Sl.v d, Sl.v i]] Try.func60 rfl Try.ntmps60 rfl ?_
 intro a0 am
 unfold tree_Check.vc at al
 refine wp_seq (wp_region_lit ?_)
 refine sq (opk_new (fun B => .pointer (some ⟨B, 0, none⟩)) am rfl (r_box (cs := [.int .i64 a, .string (Bs f), .string (Bs h), Sl.v d, Sl.v i]) (am.get rfl) rfl) fun a4 k r aV aX x aY _ => ?_)
 have aZ : New w r k := aX
 have hC9 : Chg [] w k := aV
 refine sqv aY rfl (r_assign rfl) fun _ a1 => sq_end ?_
 have an := a1.kp [(1, pB r 0)] rfl
 refine then_normal (wp_seq (wp_region_lit ?_))
 refine sqv an rfl (r_fieldAddr (an.get rfl) Try.underlying26 rfl ti_3 (by decide)) fun _ ao => sqv ao rfl (r_load1 tU3 rfl (ao.get rfl) (x.cell 0 _ rfl)) fun _ ap => sqv ap rfl (r_eql (ap.get rfl) rfl) fun _ aq => sqv aq rfl (r_move (aq.get rfl)) fun _ ar => ?_
 refine sq (opk_gval ar rfl rfl (g := true) (e := (decide (a = 1))) rfl (fun hg => r_loadN (cs := [.int .i64 a, .string (Bs f), .string (Bs h), Sl.v d, Sl.v i]) Try.underlying26 rfl ti_26 (ar.get rfl) (x.part 0 _ rfl)) fun br au _ => ?_)
 have a2 := al k r aZ  hC9
 obtain ⟨b, a3, ht21⟩ := a2
 refine sq (opk_gcall au rfl rfl (g := true) (e := (decide (a = 1))) rfl (fun hg => r_call (args := #[.agg #[.int .i64 a, .string (Bs f), .string (Bs h), Sl.v d, Sl.v i]]) Try.func78 (by decide) rfl (map_arr (ml_cons (cv_get (au.get rfl) hg) ml_nil)) rfl) (fun hg => a3 (of_decide_eq_true (g_t hg))) fun bs m av _ y => ?_)
 have ax := x.ext y
 have bt : Chg [] k m := y
 have a5 := ht21 m y
 refine sq (opk_gval av rfl rfl (g := true) (e := (decide (a = 1))) rfl (fun hg => r_leq (cv_get (av.get rfl) hg) rfl) fun bu z _ => ?_)
 refine sqv z rfl (r_pick_and (g := (true && ((decide (a = 1)) == true))) (z.get rfl) (z.get rfl) (fun he => g_mkt rfl he)) fun _ ay => sqv ay rfl (r_move (ay.get rfl)) fun _ az => ?_
 refine sq (opk_gval az rfl rfl (g := true) (e := ((decide (a = 1)) && (decide (b ≤ 300)))) rfl (fun hg => r_loadN (cs := [.int .i64 a, .string (Bs f), .string (Bs h), Sl.v d, Sl.v i]) Try.underlying26 rfl ti_26 (az.get rfl) (ax.part 0 _ rfl)) fun bv aA _ => ?_)
 obtain ⟨c, a6, a7⟩ := a5
 refine sq (opk_gcall aA rfl rfl (g := true) (e := ((decide (a = 1)) && (decide (b ≤ 300)))) rfl (fun hg => r_call (args := #[.agg #[.int .i64 a, .string (Bs f), .string (Bs h), Sl.v d, Sl.v i]]) Try.func79 (by decide) rfl (map_arr (ml_cons (cv_get (aA.get rfl) hg) ml_nil)) rfl) (fun hg => a6 ⟨(of_decide_eq_true (b_and_t (g_t hg)).1), (of_decide_eq_true (b_and_t (g_t hg)).2)⟩) fun bx o aB _ aa => ?_)
 have u := ax.ext aa
 have bz : Chg [] m o := aa
 have a8 := a7 o aa
 refine sq (opk_gval aB rfl rfl (g := true) (e := ((decide (a = 1)) && (decide (b ≤ 300)))) rfl (fun hg => r_leq (cv_get (aB.get rfl) hg) rfl) fun bA ab _ => ?_)
 refine sqv ab rfl (r_pick_and (g := (true && (((decide (a = 1)) && (decide (b ≤ 300))) == true))) (ab.get rfl) (ab.get rfl) (fun he => g_mkt rfl he)) fun _ aC => sqv aC rfl (r_move (aC.get rfl)) fun _ aD => ?_
 refine sq (opk_gval aD rfl rfl (g := true) (e := (((decide (a = 1)) && (decide (b ≤ 300))) && (decide (c ≤ 60)))) rfl (fun hg => r_fieldAddr (aD.get rfl) Try.underlying26 rfl ti_9 (by decide)) fun bB aF _ => ?_)
 refine sq (opk_gval aF rfl rfl (g := true) (e := (((decide (a = 1)) && (decide (b ≤ 300))) && (decide (c ≤ 60)))) rfl (fun hg => r_load1 tU9 rfl (cv_get (aF.get rfl) hg) (u.cell 1 _ rfl)) fun bC aG _ => ?_)
 refine sq (opk_gval aG rfl rfl (g := true) (e := (((decide (a = 1)) && (decide (b ≤ 300))) && (decide (c ≤ 60)))) rfl (fun hg => r_fieldAddr (aG.get rfl) Try.underlying26 rfl ti_9 (by decide)) fun bD aH _ => ?_)
 refine sq (opk_gval aH rfl rfl (g := true) (e := (((decide (a = 1)) && (decide (b ≤ 300))) && (decide (c ≤ 60)))) rfl (fun hg => r_load1 tU9 rfl (cv_get (aH.get rfl) hg) (u.cell 2 _ rfl)) fun bF ad _ => ?_)
 refine sq (opk_gnew2 (fun B => .slice (some ⟨B, 0, none⟩) 2 2) ad rfl rfl (g := true) (e := (((decide (a = 1)) && (decide (b ≤ 300))) && (decide (c ≤ 60)))) rfl (fun hg => r_buildSlice (vs := #[(0, .string (Bs f)), (1, .string (Bs h))]) (cs := [.string (Bs f), .string (Bs h)]) (map_arr2 (ml2_cons (cv_get (ad.get rfl) hg) (ml2_cons (cv_get (ad.get rfl) hg) (ml2_nil)))) tU41 ti_9 rfl rfl (by kernel_rfl)) fun bG l p aI aJ a9 aK _ => ?_)
 have ba := fun hg => (a9 hg).2
 have bH : r ≠ p := Nat.ne_of_lt (Nat.lt_of_lt_of_le u.lt aJ)
 have bb : o.heap.size ≤ p := aJ
 have bd := u.ext aI
 have bf : Chg [] o l := aI
 have bg := a8 l    bf
 have bh := bg p bb (fun hp => ba ((g_mkt rfl (b_and_mk ⟨(b_and_mk ⟨(decide_eq_true hp.1.1), (decide_eq_true hp.1.2)⟩), (decide_eq_true hp.2)⟩))))
 obtain ⟨j, bi, bj⟩ := bh
 refine sq (opk_gcall aK rfl rfl (g := true) (e := (((decide (a = 1)) && (decide (b ≤ 300))) && (decide (c ≤ 60)))) rfl (fun hg => r_call (args := #[Sl.v (Sl.mk (some ⟨p, 0, none⟩) 2 2)]) Try.func80 (by decide) rfl (map_arr (ml_cons (cv_get (aK.get rfl) hg) ml_nil)) rfl) (fun hg => bi ⟨⟨(of_decide_eq_true (b_and_t (b_and_t (g_t hg)).1).1), (of_decide_eq_true (b_and_t (b_and_t (g_t hg)).1).2)⟩, (of_decide_eq_true (b_and_t (g_t hg)).2)⟩) fun bI q af _ ag => ?_)
 have ah := bd.ext ag
 have bJ : Chg [] l q := ag
 have bk := bj q ag
 refine sqv af rfl (r_pick_and (g := (true && ((((decide (a = 1)) && (decide (b ≤ 300))) && (decide (c ≤ 60))) == true))) (af.get rfl) (af.get rfl) (fun he => g_mkt rfl he)) fun _ aL => sqv aL rfl (r_move (aL.get rfl)) fun _ aM => ?_
 refine sq (opk_gval aM rfl rfl (g := true) (e := ((((decide (a = 1)) && (decide (b ≤ 300))) && (decide (c ≤ 60))) && j)) rfl (fun hg => r_fieldAddr (aM.get rfl) Try.underlying26 rfl ti_23 (by decide)) fun bK aN _ => ?_)
 refine sq (opk_gval aN rfl rfl (g := true) (e := ((((decide (a = 1)) && (decide (b ≤ 300))) && (decide (c ≤ 60))) && j)) rfl (fun hg => r_load1 tU23 rfl (cv_get (aN.get rfl) hg) (ah.cell 3 _ rfl)) fun bL aO _ => ?_)
 refine sq (opk_gval aO rfl rfl (g := true) (e := ((((decide (a = 1)) && (decide (b ≤ 300))) && (decide (c ≤ 60))) && j)) rfl (fun hg => r_len (cv_get (aO.get rfl) hg) tU23) fun bM aP _ => ?_)
 refine sq (opk_gval aP rfl rfl (g := true) (e := ((((decide (a = 1)) && (decide (b ≤ 300))) && (decide (c ≤ 60))) && j)) rfl (fun hg => r_eql (cv_get (aP.get rfl) hg) rfl) fun bN ai _ => ?_)
 refine sqv ai rfl (r_pick_and (g := (true && (((((decide (a = 1)) && (decide (b ≤ 300))) && (decide (c ≤ 60))) && j) == true))) (ai.get rfl) (ai.get rfl) (fun he => g_mkt rfl he)) fun _ aQ => sqv aQ rfl (r_move (aQ.get rfl)) fun _ aR => ?_
 refine sq (opk_gval aR rfl rfl (g := true) (e := (((((decide (a = 1)) && (decide (b ≤ 300))) && (decide (c ≤ 60))) && j) && (decide ((d.n : Int) = 0)))) rfl (fun hg => r_loadN (cs := [.int .i64 a, .string (Bs f), .string (Bs h), Sl.v d, Sl.v i]) Try.underlying26 rfl ti_26 (aR.get rfl) (ah.part 0 _ rfl)) fun bO aS _ => ?_)
 obtain ⟨s, bl, bm⟩ := bk
 refine sq (opk_gcall aS rfl rfl (g := true) (e := (((((decide (a = 1)) && (decide (b ≤ 300))) && (decide (c ≤ 60))) && j) && (decide ((d.n : Int) = 0)))) rfl (fun hg => r_call (args := #[.agg #[.int .i64 a, .string (Bs f), .string (Bs h), Sl.v d, Sl.v i]]) Try.func81 (by decide) rfl (map_arr (ml_cons (cv_get (aS.get rfl) hg) ml_nil)) rfl) (fun hg => bl ⟨⟨⟨⟨(of_decide_eq_true (b_and_t (b_and_t (b_and_t (b_and_t (g_t hg)).1).1).1).1), (of_decide_eq_true (b_and_t (b_and_t (b_and_t (b_and_t (g_t hg)).1).1).1).2)⟩, (of_decide_eq_true (b_and_t (b_and_t (b_and_t (g_t hg)).1).1).2)⟩, (b_and_t (b_and_t (g_t hg)).1).2⟩, (of_decide_eq_true (b_and_t (g_t hg)).2)⟩) fun bP t aj _ ak => ?_)
 have bQ := ah.ext ak
 have bR : Chg [] q t := ak
 have bn := bm t ak
 refine sqv aj rfl (r_pick_and (g := (true && ((((((decide (a = 1)) && (decide (b ≤ 300))) && (decide (c ≤ 60))) && j) && (decide ((d.n : Int) = 0))) == true))) (aj.get rfl) (aj.get rfl) (fun he => g_mkt rfl he)) fun _ aT => sqv aT rfl (r_assign (aT.get rfl)) fun _ bo => sq_end ?_
 have aU := bo.kp [(2, .bool ((((((decide (a = 1)) && (decide (b ≤ 300))) && (decide (c ≤ 60))) && j) && (decide ((d.n : Int) = 0))) && s))] rfl
 refine then_normal ?_
 refine wp_ret ?_
 exact res_all (vs := [.bool ((((((decide (a = 1)) && (decide (b ≤ 300))) && (decide (c ≤ 60))) && j) && (decide ((d.n : Int) = 0))) && s)]) rfl aU ⟨res_of_tmp aU rfl, trivial⟩ bn
def tree_Attr.vc (l : Int) (m : Str) (o : Str) (b : Sl) (p : Sl) (d : Str) (R : Value → World → Prop) (w : World) : Prop :=
∀ (i : World) (q : Nat), New w q i → Chg [] w i →
∃ (r : Int → World → Prop) (x : Int → World → Nat),
r 0 i ∧
(∀ (c : Int) (g : World), r c g →
((c < (b.n : Int)) →
((0 : Int) ≤ c ∧ c < (b.n : Int)) ∧ ∃ y : Addr, b.a = some y ∧
∃ (j : Str) (k : Str), (Cells g (y.add (c.toNat * 2)) [.string (Bs j), .string (Bs k)]) ∧
((j = d) →
∀ (f : World) (h : Nat), New g h f → Chg [] g f →
R (.tuple #[.string (Bs k), .bool true]) f) ∧
((¬ (j = d)) →
(I64 (c + 1)) ∧
∀ (f : World) (h : Nat), New g h f → Chg [] g f →
r (c + 1) f ∧ x (c + 1) f < x c g)) ∧
((¬ (c < (b.n : Int))) →
R (.tuple #[.string (Bs []), .bool false]) g))
theorem tree_Attr.ok (l : Int) (m : Str) (o : Str) (b : Sl) (p : Sl) (d : Str) {R : Value → World → Prop} {w : World} (ag : tree_Attr.vc l m o b p d R w) : Calls Try.prog 65 #[.agg #[.int .i64 l, .string (Bs m), .string (Bs o), Sl.v b, Sl.v p], .string (Bs d)] w (Ret R) := by
 refine enter [.agg #[.int .i64 l, .string (Bs m), .string (Bs o), Sl.v b, Sl.v p], .string (Bs d)] Try.func65 rfl Try.ntmps65 rfl ?_
 intro a0 ah
 unfold tree_Attr.vc at ag
 refine wp_seq (wp_region_lit ?_)
 refine sq (opk_new (fun B => .pointer (some ⟨B, 0, none⟩)) ah rfl (r_box (cs := [.int .i64 l, .string (Bs m), .string (Bs o), Sl.v b, Sl.v p]) (ah.get rfl) rfl) fun a5 i q aG aH aI aJ _ => ?_)
 have aK : New w q i := aH
 have aL : Chg [] w i := aG
 refine sqv aJ rfl (r_assign rfl) fun _ aM => sqv aM rfl (r_assign rfl) fun _ aN => sq_end ?_
 have ai := aN.kp [(1, .string (Bs d)), (2, pB q 0)] rfl
 refine then_normal (wp_seq (wp_seq (wp_region_lit ?_)))
 refine sqv ai rfl (r_fieldAddr (ai.get rfl) Try.underlying26 rfl ti_23 (by decide)) fun _ aj => sqv aj rfl (r_load1 tU23 rfl (aj.get rfl) (aI.cell 3 _ rfl)) fun _ ak => sqv ak rfl (r_len (ak.get rfl) tU23) fun _ aO => sqv aO rfl (r_move rfl) fun _ aP => sq_end ?_
 have aQ := aP.kp [(1, .string (Bs d)), (9, Sl.v b), (10, .int .i64 (b.n : Int)), (11, .int .i64 0)] rfl
 refine then_normal (wp_block ?_)
 have aR := ag i q aK  aL
 obtain ⟨r, x, aS, aT⟩ := aR
 refine wp_loop_st (σ := Int × World) (fun s a w => Ag 22 a [(1, .string (Bs d)), (9, Sl.v b), (10, .int .i64 (b.n : Int)), (11, .int .i64 s.1)] ∧ w = s.2 ∧ r s.1 s.2) (fun s => x s.1 s.2) (0, i) ⟨aQ.kp [(1, .string (Bs d)), (9, Sl.v b), (10, .int .i64 (b.n : Int)), (11, .int .i64 0)] rfl, rfl, aS⟩ ?_
 rintro ⟨c, g⟩ br w_ ⟨z, hw_, aU⟩
 have hw_ : g = w_ := hw_.symm
 subst hw_
 have al := aT c _ aU
 refine wp_seq (wp_region_lit ?_)
 refine sqv z rfl (r_lss (z.get rfl) (z.get rfl)) fun _ aV => sq_end ?_
 have t := aV.kp [(1, .string (Bs d)), (9, Sl.v b), (10, .int .i64 (b.n : Int)), (11, .int .i64 c), (12, .bool (decide (c < (b.n : Int))))] rfl
 refine then_normal (wp_seq ?_)
 refine wp_cond_split (t.get rfl) (fun hc => ?_) (fun hc => ?_)
 ·have aX := al.1 (of_decide_eq_true hc)
  clear hc
  refine wp_skip ?_
  refine then_normal (wp_seq (wp_block (wp_seq (wp_region_lit ?_))))
  obtain ⟨aY, y, aZ, ht83⟩ := aX
  refine sqv t rfl (r_indexAddr (t.get rfl) (t.get rfl) tU23 ti_47 aY aZ) fun _ am => ?_
  obtain ⟨j, k, a1, an⟩ := ht83
  refine sqv am rfl (r_loadN Try.underlying47 rfl ti_47 (am.get rfl) a1) fun _ a2 => ?_
  refine sq (opk_new (fun B => .pointer (some ⟨B, 0, none⟩)) a2 rfl (r_alloc (cs := [.string (Bs []), .string (Bs [])]) ti_47 rfl) fun bs ao h a3 a4 ap aa _ => ?_)
  have aq : New g h ao := a4
  have hC96 : Chg [] g ao := a3
  refine sq (opk_store aa ap (r_store (vs := [.string (Bs j), .string (Bs k)]) (aa.get rfl) (aa.get rfl) rfl ti_47 ap rfl (ones_all _ rfl)) fun bt f ar a6 a7 => ?_)
  have au : Box f h 47 [.string (Bs j), .string (Bs k)] := a6
  have av := hC96.storeNew aq ar
  have ax := aq.up ar.size
  refine sq_end ?_
  have ay := a7.kp [(1, .string (Bs d)), (7, pB h 0), (9, Sl.v b), (10, .int .i64 (b.n : Int)), (11, .int .i64 c)] rfl
  refine then_normal (wp_seq (wp_region_lit ?_))
  refine sqv ay rfl (r_fieldAddr (ay.get rfl) Try.underlying47 rfl ti_9 (by decide)) fun _ az => sqv az rfl (r_load1 tU9 rfl (az.get rfl) (au.cell 0 _ rfl)) fun _ aA => sqv aA rfl (r_move (aA.get rfl)) fun _ ab => sqv ab rfl (r_seql (ab.get rfl) (ab.get rfl)) fun _ a8 => sq_end ?_
  have u := a8.kp [(1, .string (Bs d)), (7, pB h 0), (9, Sl.v b), (10, .int .i64 (b.n : Int)), (11, .int .i64 c), (18, .bool (decide (j = d)))] rfl
  refine then_normal ?_
  refine wp_cond_split (u.get rfl) (fun hc => ?_) (fun hc => ?_)
  ·have a9 := an.1 (of_decide_eq_true hc)
   clear hc
   refine wp_seq (wp_region_lit ?_)
   refine sqv u rfl (r_fieldAddr (u.get rfl) Try.underlying47 rfl ti_9 (by decide)) fun _ aB => sqv aB rfl (r_load1 tU9 rfl (aB.get rfl) (au.cell 1 _ rfl)) fun _ aC => sqv aC rfl (r_assign (aC.get rfl)) fun _ ba => sqv ba rfl (r_assign rfl) fun _ bb => sq_end ?_
   have ad := bb.kp [(4, .string (Bs k)), (5, .bool true)] rfl
   refine then_normal ?_
   refine wp_ret ?_
   refine block_ret ?_
   refine then_ret ?_
   refine then_ret ?_
   refine block_ret ?_
   refine then_ret ?_
   have bd := a9 f h ax  av
   exact res_all (vs := [.string (Bs k), .bool true]) rfl ad ⟨res_of_tmp ad rfl, res_of_tmp ad rfl, trivial⟩ bd
  ·have bf := an.2 (of_decide_eq_false hc)
   clear hc
   refine wp_skip ?_
   refine block_normal ?_
   refine then_normal (wp_region_lit ?_)
   obtain ⟨bg, bh⟩ := bf
   refine sqv u rfl (r_addI (u.get rfl) rfl bg) fun _ aD => sqv aD rfl (r_move (aD.get rfl)) fun _ bi => sq_end ?_
   have bj := bi.kp [(1, .string (Bs d)), (9, Sl.v b), (10, .int .i64 (b.n : Int)), (11, .int .i64 (c + 1))] rfl
   have aF := bh f h ax  av
   have bk := bj.kp [(1, .string (Bs d)), (9, Sl.v b), (10, .int .i64 (b.n : Int)), (11, .int .i64 (c + 1))] rfl
   exact then_normal ⟨(c + 1, f), ⟨bk, rfl, aF.1⟩, aF.2⟩
 ·have bl := al.2 (of_decide_eq_false hc)
  clear hc
  refine wp_exit ?_
  refine then_exit ?_
  refine then_exit ?_
  refine block_hit ?_
  have bm := t.kp [] rfl
  refine then_normal (wp_seq (wp_region_lit ?_))
  refine sqv bm rfl (r_assign rfl) fun _ bn => sqv bn rfl (r_assign rfl) fun _ bo => sq_end ?_
  have af := bo.kp [(4, .string (Bs [])), (5, .bool false)] rfl
  refine then_normal ?_
  refine wp_ret ?_
  exact res_all (vs := [.string (Bs []), .bool false]) rfl af ⟨res_of_tmp af rfl, res_of_tmp af rfl, trivial⟩ bl
def tree_Size.vc (r : Int) (t : Str) (u : Str) (x : Sl) (b : Sl) (R : Value → World → Prop) (w : World) : Prop :=
∀ (h : World) (p : Nat), New w p h → Chg [] w h →
∃ (y : Int → Int → World → Prop) (aa : Int → Int → World → Nat),
y 1 0 h ∧
(∀ (d : Int) (c : Int) (f : World), y d c f →
((c < (b.n : Int)) →
((0 : Int) ≤ c ∧ c < (b.n : Int)) ∧ ∃ ad : Addr, b.a = some ad ∧
∃ (i : Int) (j : Str) (k : Str) (l : Sl) (m : Sl), (Cells f (ad.add (c.toNat * 5)) [.int .i64 i, .string (Bs j), .string (Bs k), Sl.v l, Sl.v m]) ∧
∀ (q : World) (o : Nat), New f o q → Chg [] f q →
CallK Try.prog 78 #[.agg #[.int .i64 i, .string (Bs j), .string (Bs k), Sl.v l, Sl.v m]] q [o] (fun v ab => ∃ (g : Int), v = .int .i64 g ∧
(I64 (d + g)) ∧
(I64 (c + 1)) ∧
y (d + g) (c + 1) ab ∧ aa (d + g) (c + 1) ab < aa d c f)) ∧
((¬ (c < (b.n : Int))) →
R (.int .i64 d) f))
theorem tree_Size.ok (r : Int) (t : Str) (u : Str) (x : Sl) (b : Sl) {R : Value → World → Prop} {w : World} (ai : tree_Size.vc r t u x b R w) : Calls Try.prog 78 #[.agg #[.int .i64 r, .string (Bs t), .string (Bs u), Sl.v x, Sl.v b]] w (Ret R) := by
 refine enter [.agg #[.int .i64 r, .string (Bs t), .string (Bs u), Sl.v x, Sl.v b]] Try.func78 rfl Try.ntmps78 rfl ?_
 intro a0 aj
 unfold tree_Size.vc at ai
 refine wp_seq (wp_region_lit ?_)
 refine sq (opk_new (fun B => .pointer (some ⟨B, 0, none⟩)) aj rfl (r_box (cs := [.int .i64 r, .string (Bs t), .string (Bs u), Sl.v x, Sl.v b]) (aj.get rfl) rfl) fun a4 h p aI aJ aK aL _ => ?_)
 have aM : New w p h := aJ
 have aN : Chg [] w h := aI
 refine sqv aL rfl (r_assign rfl) fun _ aO => sq_end ?_
 have aP := aO.kp [(1, pB p 0)] rfl
 refine then_normal (wp_seq (wp_region_lit ?_))
 refine sqv aP rfl (r_assign rfl) fun _ aQ => sq_end ?_
 have ak := aQ.kp [(1, pB p 0), (3, .int .i64 1)] rfl
 refine then_normal (wp_seq (wp_seq (wp_region_lit ?_)))
 refine sqv ak rfl (r_fieldAddr (ak.get rfl) Try.underlying26 rfl ti_24 (by decide)) fun _ al => sqv al rfl (r_load1 tU24 rfl (al.get rfl) (aK.cell 4 _ rfl)) fun _ am => sqv am rfl (r_len (am.get rfl) tU24) fun _ aR => sqv aR rfl (r_move rfl) fun _ aS => sq_end ?_
 have aT := aS.kp [(3, .int .i64 1), (7, Sl.v b), (8, .int .i64 (b.n : Int)), (9, .int .i64 0)] rfl
 refine then_normal (wp_block ?_)
 have aU := ai h p aM  aN
 obtain ⟨y, aa, aV, aX⟩ := aU
 refine wp_loop_st (σ := Int × Int × World) (fun s a w => Ag 19 a [(3, .int .i64 s.1), (7, Sl.v b), (8, .int .i64 (b.n : Int)), (9, .int .i64 s.2.1)] ∧ w = s.2.2 ∧ y s.1 s.2.1 s.2.2) (fun s => aa s.1 s.2.1 s.2.2) (1, 0, h) ⟨aT.kp [(3, .int .i64 1), (7, Sl.v b), (8, .int .i64 (b.n : Int)), (9, .int .i64 0)] rfl, rfl, aV⟩ ?_
 rintro ⟨d, c, f⟩ bv w_ ⟨af, hw_, aY⟩
 have hw_ : f = w_ := hw_.symm
 subst hw_
 have an := aX d c _ aY
 refine wp_seq (wp_region_lit ?_)
 refine sqv af rfl (r_lss (af.get rfl) (af.get rfl)) fun _ aZ => sq_end ?_
 have z := aZ.kp [(3, .int .i64 d), (7, Sl.v b), (8, .int .i64 (b.n : Int)), (9, .int .i64 c), (10, .bool (decide (c < (b.n : Int))))] rfl
 refine then_normal (wp_seq ?_)
 refine wp_cond_split (z.get rfl) (fun hc => ?_) (fun hc => ?_)
 ·have ht84 := an.1 (of_decide_eq_true hc)
  clear hc
  refine wp_skip ?_
  refine then_normal (wp_seq (wp_block (wp_seq (wp_region_lit ?_))))
  obtain ⟨a1, ad, a2, a3⟩ := ht84
  refine sqv z rfl (r_indexAddr (z.get rfl) (z.get rfl) tU24 ti_26 a1 a2) fun _ ao => ?_
  obtain ⟨i, j, k, l, m, hx93, a5⟩ := a3
  refine sqv ao rfl (r_loadN Try.underlying26 rfl ti_26 (ao.get rfl) hx93) fun _ a6 => ?_
  refine sq (opk_new (fun B => .pointer (some ⟨B, 0, none⟩)) a6 rfl (r_alloc (cs := [.int .i64 0, .string (Bs []), .string (Bs []), Sl.v Sl.nil, Sl.v Sl.nil]) ti_26 rfl) fun bx ap o a7 a8 aq ag _ => ?_)
  have ar : New f o ap := a8
  have a9 : Chg [] f ap := a7
  refine sq (opk_store ag aq (r_store (vs := [.int .i64 i, .string (Bs j), .string (Bs k), Sl.v l, Sl.v m]) (ag.get rfl) (ag.get rfl) rfl ti_26 aq rfl (ones_all _ rfl)) fun bz q au ba bb => ?_)
  have av : Box q o 26 [.int .i64 i, .string (Bs j), .string (Bs k), Sl.v l, Sl.v m] := ba
  have bd := a9.storeNew ar au
  have bf := ar.up au.size
  refine sq_end ?_
  have ax := bb.kp [(3, .int .i64 d), (5, pB o 0), (7, Sl.v b), (8, .int .i64 (b.n : Int)), (9, .int .i64 c)] rfl
  refine then_normal (wp_region_lit ?_)
  refine sqv ax rfl (r_move (ax.get rfl)) fun _ ay => sqv ay rfl (r_loadN (cs := [.int .i64 i, .string (Bs j), .string (Bs k), Sl.v l, Sl.v m]) Try.underlying26 rfl ti_26 (ay.get rfl) (av.part 0 _ rfl)) fun _ az => ?_
  have bg := a5 q o bf  bd
  refine sq (opk_call az rfl (r_call (args := #[.agg #[.int .i64 i, .string (Bs j), .string (Bs k), Sl.v l, Sl.v m]]) Try.func78 (by decide) rfl (map_arr (ml_cons (az.get rfl) ml_nil)) rfl) bg fun bA bB ab ah _ bh bC bi => ?_)
  obtain ⟨g, rfl, bj⟩ := bi
  have bD := av.kept bh (.head _)
  obtain ⟨bk, bl⟩ := bj
  refine sqv ah rfl (r_addI (ah.get rfl) (ah.get rfl) bk) fun _ aA => sqv aA rfl (r_assign (aA.get rfl)) fun _ bm => sq_end ?_
  have aB := bm.kp [(3, .int .i64 (d + g)), (7, Sl.v b), (8, .int .i64 (b.n : Int)), (9, .int .i64 c)] rfl
  refine block_normal ?_
  refine then_normal (wp_region_lit ?_)
  obtain ⟨bn, aC⟩ := bl
  refine sqv aB rfl (r_addI (aB.get rfl) rfl bn) fun _ aD => sqv aD rfl (r_move (aD.get rfl)) fun _ bo => sq_end ?_
  have bp := bo.kp [(3, .int .i64 (d + g)), (7, Sl.v b), (8, .int .i64 (b.n : Int)), (9, .int .i64 (c + 1))] rfl
  have bq := bp.kp [(3, .int .i64 (d + g)), (7, Sl.v b), (8, .int .i64 (b.n : Int)), (9, .int .i64 (c + 1))] rfl
  exact then_normal ⟨(d + g, c + 1, ab), ⟨bq, rfl, aC.1⟩, aC.2⟩
 ·have br := an.2 (of_decide_eq_false hc)
  clear hc
  refine wp_exit ?_
  refine then_exit ?_
  refine then_exit ?_
  refine block_hit ?_
  have aF := z.kp [(3, .int .i64 d)] rfl
  refine then_normal (wp_seq (wp_region_lit ?_))
  refine sqv aF rfl (r_move (aF.get rfl)) fun _ aG => sqv aG rfl (r_assign (aG.get rfl)) fun _ bs => sq_end ?_
  have aH := bs.kp [(2, .int .i64 d)] rfl
  refine then_normal ?_
  refine wp_ret ?_
  exact res_all (vs := [.int .i64 d]) rfl aH ⟨res_of_tmp aH rfl, trivial⟩ br
def tree_Depth.vc (r : Int) (t : Str) (u : Str) (x : Sl) (b : Sl) (R : Value → World → Prop) (w : World) : Prop :=
∀ (g : World) (p : Nat), New w p g → Chg [] w g →
∃ (y : Int → Int → World → Prop) (aa : Int → Int → World → Nat),
y 0 0 g ∧
(∀ (d : Int) (c : Int) (f : World), y d c f →
((c < (b.n : Int)) →
((0 : Int) ≤ c ∧ c < (b.n : Int)) ∧ ∃ ad : Addr, b.a = some ad ∧
∃ (i : Int) (j : Str) (k : Str) (l : Sl) (m : Sl), (Cells f (ad.add (c.toNat * 5)) [.int .i64 i, .string (Bs j), .string (Bs k), Sl.v l, Sl.v m]) ∧
∀ (q : World) (o : Nat), New f o q → Chg [] f q →
CallK Try.prog 79 #[.agg #[.int .i64 i, .string (Bs j), .string (Bs k), Sl.v l, Sl.v m]] q [o] (fun v ab => ∃ (h : Int), v = .int .i64 h ∧
(I64 (c + 1)) ∧
y (max d h) (c + 1) ab ∧ aa (max d h) (c + 1) ab < aa d c f)) ∧
((¬ (c < (b.n : Int))) →
(I64 (d + 1)) ∧
R (.int .i64 (d + 1)) f))
theorem tree_Depth.ok (r : Int) (t : Str) (u : Str) (x : Sl) (b : Sl) {R : Value → World → Prop} {w : World} (ai : tree_Depth.vc r t u x b R w) : Calls Try.prog 79 #[.agg #[.int .i64 r, .string (Bs t), .string (Bs u), Sl.v x, Sl.v b]] w (Ret R) := by
 refine enter [.agg #[.int .i64 r, .string (Bs t), .string (Bs u), Sl.v x, Sl.v b]] Try.func79 rfl Try.ntmps79 rfl ?_
 intro a0 aj
 unfold tree_Depth.vc at ai
 refine wp_seq (wp_region_lit ?_)
 refine sq (opk_new (fun B => .pointer (some ⟨B, 0, none⟩)) aj rfl (r_box (cs := [.int .i64 r, .string (Bs t), .string (Bs u), Sl.v x, Sl.v b]) (aj.get rfl) rfl) fun a4 g p aJ aK aL aM _ => ?_)
 have aN : New w p g := aK
 have aO : Chg [] w g := aJ
 refine sqv aM rfl (r_assign rfl) fun _ aP => sq_end ?_
 have aQ := aP.kp [(1, pB p 0)] rfl
 refine then_normal (wp_seq (wp_region_lit ?_))
 refine sqv aQ rfl (r_assign rfl) fun _ aR => sq_end ?_
 have ak := aR.kp [(1, pB p 0), (3, .int .i64 0)] rfl
 refine then_normal (wp_seq (wp_seq (wp_region_lit ?_)))
 refine sqv ak rfl (r_fieldAddr (ak.get rfl) Try.underlying26 rfl ti_24 (by decide)) fun _ al => sqv al rfl (r_load1 tU24 rfl (al.get rfl) (aL.cell 4 _ rfl)) fun _ am => sqv am rfl (r_len (am.get rfl) tU24) fun _ aS => sqv aS rfl (r_move rfl) fun _ aT => sq_end ?_
 have aU := aT.kp [(3, .int .i64 0), (7, Sl.v b), (8, .int .i64 (b.n : Int)), (9, .int .i64 0)] rfl
 refine then_normal (wp_block ?_)
 have aV := ai g p aN  aO
 obtain ⟨y, aa, aX, aY⟩ := aV
 refine wp_loop_st (σ := Int × Int × World) (fun s a w => Ag 20 a [(3, .int .i64 s.1), (7, Sl.v b), (8, .int .i64 (b.n : Int)), (9, .int .i64 s.2.1)] ∧ w = s.2.2 ∧ y s.1 s.2.1 s.2.2) (fun s => aa s.1 s.2.1 s.2.2) (0, 0, g) ⟨aU.kp [(3, .int .i64 0), (7, Sl.v b), (8, .int .i64 (b.n : Int)), (9, .int .i64 0)] rfl, rfl, aX⟩ ?_
 rintro ⟨d, c, f⟩ bx w_ ⟨af, hw_, aZ⟩
 have hw_ : f = w_ := hw_.symm
 subst hw_
 have an := aY d c _ aZ
 refine wp_seq (wp_region_lit ?_)
 refine sqv af rfl (r_lss (af.get rfl) (af.get rfl)) fun _ hA80 => sq_end ?_
 have z := hA80.kp [(3, .int .i64 d), (7, Sl.v b), (8, .int .i64 (b.n : Int)), (9, .int .i64 c), (10, .bool (decide (c < (b.n : Int))))] rfl
 refine then_normal (wp_seq ?_)
 refine wp_cond_split (z.get rfl) (fun hc => ?_) (fun hc => ?_)
 ·have a1 := an.1 (of_decide_eq_true hc)
  clear hc
  refine wp_skip ?_
  refine then_normal (wp_seq (wp_block (wp_seq (wp_region_lit ?_))))
  obtain ⟨a2, ad, a3, ht87⟩ := a1
  refine sqv z rfl (r_indexAddr (z.get rfl) (z.get rfl) tU24 ti_26 a2 a3) fun _ ao => ?_
  obtain ⟨i, j, k, l, m, a5, a6⟩ := ht87
  refine sqv ao rfl (r_loadN Try.underlying26 rfl ti_26 (ao.get rfl) a5) fun _ a7 => ?_
  refine sq (opk_new (fun B => .pointer (some ⟨B, 0, none⟩)) a7 rfl (r_alloc (cs := [.int .i64 0, .string (Bs []), .string (Bs []), Sl.v Sl.nil, Sl.v Sl.nil]) ti_26 rfl) fun bz ap o a8 a9 aq ag _ => ?_)
  have ar : New f o ap := a9
  have ba : Chg [] f ap := a8
  refine sq (opk_store ag aq (r_store (vs := [.int .i64 i, .string (Bs j), .string (Bs k), Sl.v l, Sl.v m]) (ag.get rfl) (ag.get rfl) rfl ti_26 aq rfl (ones_all _ rfl)) fun bA q au bb bd => ?_)
  have av : Box q o 26 [.int .i64 i, .string (Bs j), .string (Bs k), Sl.v l, Sl.v m] := bb
  have bf := ba.storeNew ar au
  have bg := ar.up au.size
  refine sq_end ?_
  have ax := bd.kp [(3, .int .i64 d), (5, pB o 0), (7, Sl.v b), (8, .int .i64 (b.n : Int)), (9, .int .i64 c)] rfl
  refine then_normal (wp_region_lit ?_)
  refine sqv ax rfl (r_move (ax.get rfl)) fun _ ay => sqv ay rfl (r_loadN (cs := [.int .i64 i, .string (Bs j), .string (Bs k), Sl.v l, Sl.v m]) Try.underlying26 rfl ti_26 (ay.get rfl) (av.part 0 _ rfl)) fun _ az => ?_
  have bh := a6 q o bg  bf
  refine sq (opk_call az rfl (r_call (args := #[.agg #[.int .i64 i, .string (Bs j), .string (Bs k), Sl.v l, Sl.v m]]) Try.func79 (by decide) rfl (map_arr (ml_cons (az.get rfl) ml_nil)) rfl) bh fun bB bC ab ah _ bi bD bj => ?_)
  obtain ⟨h, rfl, bk⟩ := bj
  have bF := av.kept bi (.head _)
  refine sqv ah rfl (r_max (ah.get rfl) (ah.get rfl)) fun _ aA => sqv aA rfl (r_assign (aA.get rfl)) fun _ bl => sq_end ?_
  have aB := bl.kp [(3, .int .i64 (max d h)), (7, Sl.v b), (8, .int .i64 (b.n : Int)), (9, .int .i64 c)] rfl
  refine block_normal ?_
  refine then_normal (wp_region_lit ?_)
  obtain ⟨bm, aC⟩ := bk
  refine sqv aB rfl (r_addI (aB.get rfl) rfl bm) fun _ aD => sqv aD rfl (r_move (aD.get rfl)) fun _ bn => sq_end ?_
  have bo := bn.kp [(3, .int .i64 (max d h)), (7, Sl.v b), (8, .int .i64 (b.n : Int)), (9, .int .i64 (c + 1))] rfl
  have bp := bo.kp [(3, .int .i64 (max d h)), (7, Sl.v b), (8, .int .i64 (b.n : Int)), (9, .int .i64 (c + 1))] rfl
  exact then_normal ⟨(max d h, c + 1, ab), ⟨bp, rfl, aC.1⟩, aC.2⟩
 ·have bq := an.2 (of_decide_eq_false hc)
  clear hc
  refine wp_exit ?_
  refine then_exit ?_
  refine then_exit ?_
  refine block_hit ?_
  have aF := z.kp [(3, .int .i64 d)] rfl
  refine then_normal (wp_seq (wp_region_lit ?_))
  refine sqv aF rfl (r_move (aF.get rfl)) fun _ aG => ?_
  obtain ⟨br, bs⟩ := bq
  refine sqv aG rfl (r_addI (aG.get rfl) rfl br) fun _ aH => sqv aH rfl (r_assign (aH.get rfl)) fun _ bt => sq_end ?_
  have aI := bt.kp [(2, .int .i64 (d + 1))] rfl
  refine then_normal ?_
  refine wp_ret ?_
  exact res_all (vs := [.int .i64 (d + 1)]) rfl aI ⟨res_of_tmp aI rfl, trivial⟩ bs
def tree_empty.vc (b : Sl) (R : Value → World → Prop) (w : World) : Prop :=
∃ (g : Int → World → Prop) (i : Int → World → Nat),
g 0 w ∧
(∀ (c : Int) (d : World), g c d →
((c < (b.n : Int)) →
((0 : Int) ≤ c ∧ c < (b.n : Int)) ∧ ∃ k : Addr, b.a = some k ∧
∃ (f : Str), (d.cell? (k.add (c.toNat * 1)) = some (.string (Bs f))) ∧
((f ≠ ([] : Str)) →
R (.bool false) d) ∧
((¬ (f ≠ ([] : Str))) →
(I64 (c + 1)) ∧
g (c + 1) d ∧ i (c + 1) d < i c d)) ∧
((¬ (c < (b.n : Int))) →
R (.bool true) d))
theorem tree_empty.ok (b : Sl) {R : Value → World → Prop} {w : World} (m : tree_empty.vc b R w) : Calls Try.prog 80 #[Sl.v b] w (Ret R) := by
 refine enter [Sl.v b] Try.func80 rfl Try.ntmps80 rfl ?_
 intro a0 af
 unfold tree_empty.vc at m
 refine wp_seq (wp_region_lit ?_)
 refine sqv af rfl (r_assign rfl) fun _ ag => sq_end ?_
 have o := ag.kp [(0, Sl.v b)] rfl
 refine then_normal (wp_seq (wp_seq (wp_region_lit ?_)))
 refine sqv o rfl (r_move (o.get rfl)) fun _ p => sqv p rfl (r_len (p.get rfl) tU41) fun _ ah => sqv ah rfl (r_move rfl) fun _ ai => sq_end ?_
 have aj := ai.kp [(5, Sl.v b), (6, .int .i64 (b.n : Int)), (7, .int .i64 0)] rfl
 refine then_normal (wp_block ?_)
 obtain ⟨g, i, ak, al⟩ := m
 refine wp_loop_st (σ := Int × World) (fun s a w => Ag 14 a [(5, Sl.v b), (6, .int .i64 (b.n : Int)), (7, .int .i64 s.1)] ∧ w = s.2 ∧ g s.1 s.2) (fun s => i s.1 s.2) (0, w) ⟨aj.kp [(5, Sl.v b), (6, .int .i64 (b.n : Int)), (7, .int .i64 0)] rfl, rfl, ak⟩ ?_
 rintro ⟨c, d⟩ aK w_ ⟨l, hw_, am⟩
 have hw_ : d = w_ := hw_.symm
 subst hw_
 have q := al c _ am
 refine wp_seq (wp_region_lit ?_)
 refine sqv l rfl (r_lss (l.get rfl) (l.get rfl)) fun _ an => sq_end ?_
 have h := an.kp [(5, Sl.v b), (6, .int .i64 (b.n : Int)), (7, .int .i64 c), (8, .bool (decide (c < (b.n : Int))))] rfl
 refine then_normal (wp_seq ?_)
 refine wp_cond_split (h.get rfl) (fun hc => ?_) (fun hc => ?_)
 ·have ao := q.1 (of_decide_eq_true hc)
  clear hc
  refine wp_skip ?_
  refine then_normal (wp_seq (wp_block (wp_seq (wp_region_lit ?_))))
  obtain ⟨ap, k, aq, ar⟩ := ao
  refine sqv h rfl (r_indexAddr (h.get rfl) (h.get rfl) tU41 ti_9 ap aq) fun _ r => ?_
  obtain ⟨f, au, t⟩ := ar
  refine sqv r rfl (r_load1 tU9 rfl (r.get rfl) au) fun _ u => sqv u rfl (r_assign (u.get rfl)) fun _ av => sq_end ?_
  have x := av.kp [(4, .string (Bs f)), (5, Sl.v b), (6, .int .i64 (b.n : Int)), (7, .int .i64 c)] rfl
  refine then_normal (wp_seq (wp_region_lit ?_))
  refine sqv x rfl (r_move (x.get rfl)) fun _ y => sqv y rfl (r_sneq (y.get rfl) rfl) fun _ ax => sq_end ?_
  have j := ax.kp [(5, Sl.v b), (6, .int .i64 (b.n : Int)), (7, .int .i64 c), (12, .bool (decide (f ≠ ([] : Str))))] rfl
  refine then_normal ?_
  refine wp_cond_split (j.get rfl) (fun hc => ?_) (fun hc => ?_)
  ·have ay := t.1 (of_decide_eq_true hc)
   clear hc
   refine wp_seq (wp_region_lit ?_)
   refine sqv j rfl (r_assign rfl) fun _ az => sq_end ?_
   have z := az.kp [(2, .bool false)] rfl
   refine then_normal ?_
   refine wp_ret ?_
   refine block_ret ?_
   refine then_ret ?_
   refine then_ret ?_
   refine block_ret ?_
   refine then_ret ?_
   exact res_all (vs := [.bool false]) rfl z ⟨res_of_tmp z rfl, trivial⟩ ay
  ·have aA := t.2 (of_decide_eq_false hc)
   clear hc
   refine wp_skip ?_
   refine block_normal ?_
   refine then_normal (wp_region_lit ?_)
   obtain ⟨aB, aa⟩ := aA
   refine sqv j rfl (r_addI (j.get rfl) rfl aB) fun _ ab => sqv ab rfl (r_move (ab.get rfl)) fun _ aC => sq_end ?_
   have aD := aC.kp [(5, Sl.v b), (6, .int .i64 (b.n : Int)), (7, .int .i64 (c + 1))] rfl
   have aF := aD.kp [(5, Sl.v b), (6, .int .i64 (b.n : Int)), (7, .int .i64 (c + 1))] rfl
   exact then_normal ⟨(c + 1, d), ⟨aF, rfl, aa.1⟩, aa.2⟩
 ·have aG := q.2 (of_decide_eq_false hc)
  clear hc
  refine wp_exit ?_
  refine then_exit ?_
  refine then_exit ?_
  refine block_hit ?_
  have aH := h.kp [] rfl
  refine then_normal (wp_seq (wp_region_lit ?_))
  refine sqv aH rfl (r_assign rfl) fun _ aI => sq_end ?_
  have ad := aI.kp [(2, .bool true)] rfl
  refine then_normal ?_
  refine wp_ret ?_
  exact res_all (vs := [.bool true]) rfl ad ⟨res_of_tmp ad rfl, trivial⟩ aG
def tree_kids.vc (k : Int) (t : Str) (u : Str) (x : Sl) (b : Sl) (R : Value → World → Prop) (w : World) : Prop :=
∀ (l : World) (d : Nat), New w d l → Chg [] w l →
∃ (z : Int → World → Prop) (ad : Int → World → Nat),
z 0 l ∧
(∀ (c : Int) (j : World), z c j →
((c < (b.n : Int)) →
((0 : Int) ≤ c ∧ c < (b.n : Int)) ∧ ∃ ag : Addr, b.a = some ag ∧
∃ (i : Int) (o : Str) (p : Str) (q : Sl) (r : Sl), (Cells j (ag.add (c.toNat * 5)) [.int .i64 i, .string (Bs o), .string (Bs p), Sl.v q, Sl.v r]) ∧
∀ (y : World) (m : Nat), New j m y → Chg [] j y →
CallK Try.prog 89 #[.agg #[.int .i64 i, .string (Bs o), .string (Bs p), Sl.v q, Sl.v r]] y [d, m] (fun v aa => ∃ (f : Bool), v = .bool f ∧
(((f = false) ∨ ((i = 5) ∧ (k ≠ 1))) →
R (.bool false) aa) ∧
(((f = true) ∧ ((¬ (i = 5)) ∨ (¬ (k ≠ 1)))) →
(I64 (c + 1)) ∧
z (c + 1) aa ∧ ad (c + 1) aa < ad c j))) ∧
((¬ (c < (b.n : Int))) →
R (.bool true) j))
theorem tree_kids.ok (k : Int) (t : Str) (u : Str) (x : Sl) (b : Sl) {R : Value → World → Prop} {w : World} (am : tree_kids.vc k t u x b R w) : Calls Try.prog 81 #[.agg #[.int .i64 k, .string (Bs t), .string (Bs u), Sl.v x, Sl.v b]] w (Ret R) := by
 refine enter [.agg #[.int .i64 k, .string (Bs t), .string (Bs u), Sl.v x, Sl.v b]] Try.func81 rfl Try.ntmps81 rfl ?_
 intro a0 an
 unfold tree_kids.vc at am
 refine wp_seq (wp_region_lit ?_)
 refine sq (opk_new (fun B => .pointer (some ⟨B, 0, none⟩)) an rfl (r_box (cs := [.int .i64 k, .string (Bs t), .string (Bs u), Sl.v x, Sl.v b]) (an.get rfl) rfl) fun a4 l d aY aZ ao hA4 _ => ?_)
 have a1 : New w d l := aZ
 have a2 : Chg [] w l := aY
 refine sqv hA4 rfl (r_assign rfl) fun _ a3 => sq_end ?_
 have ap := a3.kp [(1, pB d 0)] rfl
 refine then_normal (wp_seq (wp_seq (wp_region_lit ?_)))
 refine sqv ap rfl (r_fieldAddr (ap.get rfl) Try.underlying26 rfl ti_24 (by decide)) fun _ aq => sqv aq rfl (r_load1 tU24 rfl (aq.get rfl) (ao.cell 4 _ rfl)) fun _ ar => sqv ar rfl (r_len (ar.get rfl) tU24) fun _ hA14 => sqv hA14 rfl (r_move rfl) fun _ a5 => sq_end ?_
 have a6 := a5.kp [(1, pB d 0), (6, Sl.v b), (7, .int .i64 (b.n : Int)), (8, .int .i64 0)] rfl
 refine then_normal (wp_block ?_)
 have a7 := am l d a1  a2
 obtain ⟨z, ad, a8, a9⟩ := a7
 refine wp_loop_st (σ := Int × World) (fun s a w => Ag 26 a [(1, pB d 0), (6, Sl.v b), (7, .int .i64 (b.n : Int)), (8, .int .i64 s.1)] ∧ Box w d 26 [.int .i64 k, .string (Bs t), .string (Bs u), Sl.v x, Sl.v b] ∧ w = s.2 ∧ z s.1 s.2) (fun s => ad s.1 s.2) (0, l) ⟨a6.kp [(1, pB d 0), (6, Sl.v b), (7, .int .i64 (b.n : Int)), (8, .int .i64 0)] rfl, ao, rfl, a8⟩ ?_
 rintro ⟨c, j⟩ bM w_ ⟨ah, au, hw_, ba⟩
 have hw_ : j = w_ := hw_.symm
 subst hw_
 have av := a9 c _ ba
 refine wp_seq (wp_region_lit ?_)
 refine sqv ah rfl (r_lss (ah.get rfl) (ah.get rfl)) fun _ bb => sq_end ?_
 have ab := bb.kp [(1, pB d 0), (6, Sl.v b), (7, .int .i64 (b.n : Int)), (8, .int .i64 c), (9, .bool (decide (c < (b.n : Int))))] rfl
 refine then_normal (wp_seq ?_)
 refine wp_cond_split (ab.get rfl) (fun hc => ?_) (fun hc => ?_)
 ·have bd := av.1 (of_decide_eq_true hc)
  clear hc
  refine wp_skip ?_
  refine then_normal (wp_seq (wp_block (wp_seq (wp_region_lit ?_))))
  obtain ⟨bf, ag, bg, bh⟩ := bd
  refine sqv ab rfl (r_indexAddr (ab.get rfl) (ab.get rfl) tU24 ti_26 bf bg) fun _ ax => ?_
  obtain ⟨i, o, p, q, r, bi, bj⟩ := bh
  refine sqv ax rfl (r_loadN Try.underlying26 rfl ti_26 (ax.get rfl) bi) fun _ bk => ?_
  refine sq (opk_new (fun B => .pointer (some ⟨B, 0, none⟩)) bk rfl (r_alloc (cs := [.int .i64 0, .string (Bs []), .string (Bs []), Sl.v Sl.nil, Sl.v Sl.nil]) ti_26 rfl) fun bN ay m az aA aB ai _ => ?_)
  have bl : d ≠ m := Nat.ne_of_lt (Nat.lt_of_lt_of_le au.lt aA.ge)
  have aC : New j m ay := aA
  have bm := au.ext az
  have bn : Chg [] j ay := az
  refine sq (opk_store ai aB (r_store (vs := [.int .i64 i, .string (Bs o), .string (Bs p), Sl.v q, Sl.v r]) (ai.get rfl) (ai.get rfl) rfl ti_26 aB rfl (ones_all _ rfl)) fun bO y aj bo bp => ?_)
  have aD : Box y m 26 [.int .i64 i, .string (Bs o), .string (Bs p), Sl.v q, Sl.v r] := bo
  have bq := bm.keep aj (by simpa using bl)
  have br := bn.storeNew aC aj
  have bs := aC.up aj.size
  refine sq_end ?_
  have aF := bp.kp [(1, pB d 0), (4, pB m 0), (6, Sl.v b), (7, .int .i64 (b.n : Int)), (8, .int .i64 c)] rfl
  refine then_normal (wp_seq (wp_region_lit ?_))
  refine sqv aF rfl (r_loadN (cs := [.int .i64 i, .string (Bs o), .string (Bs p), Sl.v q, Sl.v r]) Try.underlying26 rfl ti_26 (aF.get rfl) (aD.part 0 _ rfl)) fun _ aG => ?_
  have bt := bj y m bs  br
  refine sq (opk_call aG rfl (r_call (args := #[.agg #[.int .i64 i, .string (Bs o), .string (Bs p), Sl.v q, Sl.v r]]) Try.func89 (by decide) rfl (map_arr (ml_cons (aG.get rfl) ml_nil)) rfl) bt fun bP bQ aa aH _ aI bR bu => ?_)
  obtain ⟨f, rfl, aJ⟩ := bu
  have aK := bq.kept aI (.head _)
  have bv := aD.kept aI (.tail _ (.head _))
  refine sqv aH rfl (r_not (aH.get rfl)) fun _ aL => sqv aL rfl (r_move (aL.get rfl)) fun _ aM => ?_
  refine sq (opk_gval aM rfl rfl (g := true) (e := (!f)) rfl (fun hg => r_fieldAddr (aM.get rfl) Try.underlying26 rfl ti_3 (by decide)) fun bS aN _ => ?_)
  refine sq (opk_gval aN rfl rfl (g := true) (e := (!f)) rfl (fun hg => r_load1 tU3 rfl (cv_get (aN.get rfl) hg) (bv.cell 0 _ rfl)) fun bT aO _ => ?_)
  refine sq (opk_gval aO rfl rfl (g := true) (e := (!f)) rfl (fun hg => r_eql (cv_get (aO.get rfl) hg) rfl) fun bU aP _ => ?_)
  refine sq (opk_gval aP rfl rfl (g := true) (e := (!f)) rfl (fun hg => r_move (cv_get (aP.get rfl) hg)) fun bV aQ _ => ?_)
  refine sq (opk_gval aQ rfl rfl (g := (true && ((!f) == false))) (e := (decide (i = 5))) rfl (fun hg => r_fieldAddr (aQ.get rfl) Try.underlying26 rfl ti_3 (by decide)) fun bX aR _ => ?_)
  refine sq (opk_gval aR rfl rfl (g := (true && ((!f) == false))) (e := (decide (i = 5))) rfl (fun hg => r_load1 tU3 rfl (cv_get (aR.get rfl) hg) (aK.cell 0 _ rfl)) fun bY aS _ => ?_)
  refine sq (opk_gval aS rfl rfl (g := (true && ((!f) == false))) (e := (decide (i = 5))) rfl (fun hg => r_neq (cv_get (aS.get rfl) hg) rfl) fun bZ ak _ => ?_)
  refine sq (opk_gval ak rfl rfl (g := true) (e := (!f)) rfl (fun hg => r_pick_and (g := ((true && ((!f) == false)) && ((decide (i = 5)) == true))) (cv_get (ak.get rfl) hg) (ak.get rfl) (fun he => g_mkt hg he)) fun b0 al _ => ?_)
  refine sqv al rfl (r_pick_or (g := (true && ((!f) == false))) (al.get rfl) (al.get rfl) (fun he => g_mkf rfl he)) fun _ bx => sq_end ?_
  have af := bx.kp [(1, pB d 0), (6, Sl.v b), (7, .int .i64 (b.n : Int)), (8, .int .i64 c), (24, .bool ((!f) || ((decide (i = 5)) && (decide (k ≠ 1)))))] rfl
  refine then_normal ?_
  refine wp_cond_split (af.get rfl) (fun hc => ?_) (fun hc => ?_)
  ·have bz := aJ.1 ((b_or_t hc).imp (fun h => (b_not_t h)) (fun h => ⟨(of_decide_eq_true (b_and_t h).1), (of_decide_eq_true (b_and_t h).2)⟩))
   clear hc
   refine wp_seq (wp_region_lit ?_)
   refine sqv af rfl (r_assign rfl) fun _ bA => sq_end ?_
   have aT := bA.kp [(2, .bool false)] rfl
   refine then_normal ?_
   refine wp_ret ?_
   refine block_ret ?_
   refine then_ret ?_
   refine then_ret ?_
   refine block_ret ?_
   refine then_ret ?_
   exact res_all (vs := [.bool false]) rfl aT ⟨res_of_tmp aT rfl, trivial⟩ bz
  ·have bB := aJ.2 ⟨(b_not_f (b_or_f hc).1), ((b_and_f (b_or_f hc).2).imp (fun h => (of_decide_eq_false h)) (fun h => (of_decide_eq_false h)))⟩
   clear hc
   refine wp_skip ?_
   refine block_normal ?_
   refine then_normal (wp_region_lit ?_)
   obtain ⟨bC, aU⟩ := bB
   refine sqv af rfl (r_addI (af.get rfl) rfl bC) fun _ aV => sqv aV rfl (r_move (aV.get rfl)) fun _ bD => sq_end ?_
   have bF := bD.kp [(1, pB d 0), (6, Sl.v b), (7, .int .i64 (b.n : Int)), (8, .int .i64 (c + 1))] rfl
   have bG := bF.kp [(1, pB d 0), (6, Sl.v b), (7, .int .i64 (b.n : Int)), (8, .int .i64 (c + 1))] rfl
   exact then_normal ⟨(c + 1, aa), ⟨bG, aK, rfl, aU.1⟩, aU.2⟩
 ·have bH := av.2 (of_decide_eq_false hc)
  clear hc
  refine wp_exit ?_
  refine then_exit ?_
  refine then_exit ?_
  refine block_hit ?_
  have bI := ab.kp [] rfl
  refine then_normal (wp_seq (wp_region_lit ?_))
  refine sqv bI rfl (r_assign rfl) fun _ bJ => sq_end ?_
  have aX := bJ.kp [(2, .bool true)] rfl
  refine then_normal ?_
  refine wp_ret ?_
  exact res_all (vs := [.bool true]) rfl aX ⟨res_of_tmp aX rfl, trivial⟩ bH
def tree_node.vc (f : Int) (b : Str) (a : Str) (i : Sl) (l : Sl) (R : Value → World → Prop) (w : World) : Prop :=
((f = 2) →
∀ (c : World) (d : Nat), New w d c → Chg [] w c →
CallK Try.prog 92 #[.string (Bs b)] c [d] (fun v r => ∃ (j : Bool), v = .bool j ∧
∃ (m : Bool), ((((j = true) ∧ (a = ([] : Str)))) → Calls Try.prog 93 #[Sl.v i] r (Ret fun v w' => Ext r w' ∧ v = .bool m)) ∧
(∀ o : World, Ext r o →
∃ (s : Bool), (((((j = true) ∧ (a = ([] : Str))) ∧ (m = true))) → Calls Try.prog 81 #[.agg #[.int .i64 f, .string (Bs b), .string (Bs a), Sl.v i, Sl.v l]] o (Ret fun v w' => Ext o w' ∧ v = .bool s)) ∧
(∀ t : World, Ext o t →
R (.bool (((j && (decide (a = ([] : Str)))) && m) && s)) t)))) ∧
((¬ (f = 2)) →
(((0 < (i.n : Int)) ∨ (0 < (l.n : Int))) →
∀ (c : World) (d : Nat), New w d c → Chg [] w c →
R (.bool false) c) ∧
(((¬ (0 < (i.n : Int))) ∧ (¬ (0 < (l.n : Int)))) →
((f = 3) →
∀ (c : World) (d : Nat), New w d c → Chg [] w c →
R (.bool (((decide (b = ([] : Str))) && (decide (a ≠ ([] : Str)))) && (decide ((a.length : Int) ≤ 4096)))) c) ∧
((¬ (f = 3)) →
((f = 4) →
∀ (c : World) (d : Nat), New w d c → Chg [] w c →
R (.bool ((decide (b = ([] : Str))) && (decide ((a.length : Int) ≤ 4096)))) c) ∧
((¬ (f = 4)) →
((f = 5) →
∀ (c : World) (d : Nat), New w d c → Chg [] w c →
R (.bool ((decide (a = ([] : Str))) && (decide ((b.length : Int) ≤ 32)))) c) ∧
((¬ (f = 5)) →
∀ (c : World) (d : Nat), New w d c → Chg [] w c →
R (.bool false) c)))))
theorem tree_node.ok (f : Int) (b : Str) (a : Str) (i : Sl) (l : Sl) {R : Value → World → Prop} {w : World} (ab : tree_node.vc f b a i l R w) : Calls Try.prog 89 #[.agg #[.int .i64 f, .string (Bs b), .string (Bs a), Sl.v i, Sl.v l]] w (Ret R) := by
 refine enter [.agg #[.int .i64 f, .string (Bs b), .string (Bs a), Sl.v i, Sl.v l]] Try.func89 rfl Try.ntmps89 rfl ?_
 intro a0 ap
 unfold tree_node.vc at ab
 refine wp_seq (wp_region_lit ?_)
 refine sq (opk_new (fun B => .pointer (some ⟨B, 0, none⟩)) ap rfl (r_box (cs := [.int .i64 f, .string (Bs b), .string (Bs a), Sl.v i, Sl.v l]) (ap.get rfl) rfl) fun a4 c d bH bI k bJ _ => ?_)
 have p : New w d c := bI
 have q : Chg [] w c := bH
 refine sqv bJ rfl (r_assign rfl) fun _ bK => sq_end ?_
 have aq := bK.kp [(1, pB d 0)] rfl
 refine then_normal (wp_seq (wp_seq (wp_region_lit ?_)))
 refine sqv aq rfl (r_fieldAddr (aq.get rfl) Try.underlying26 rfl ti_3 (by decide)) fun _ ar => sqv ar rfl (r_load1 tU3 rfl (ar.get rfl) (k.cell 0 _ rfl)) fun _ au => sqv au rfl (r_eql (au.get rfl) rfl) fun _ bL => sq_end ?_
 have u := bL.kp [(1, pB d 0), (5, .bool (decide (f = 2)))] rfl
 refine then_normal ?_
 refine wp_cond_split (u.get rfl) (fun hc => ?_) (fun hc => ?_)
 ·have bM := ab.1 (of_decide_eq_true hc)
  clear hc
  refine wp_seq (wp_region_lit ?_)
  refine sqv u rfl (r_fieldAddr (u.get rfl) Try.underlying26 rfl ti_9 (by decide)) fun _ av => sqv av rfl (r_load1 tU9 rfl (av.get rfl) (k.cell 1 _ rfl)) fun _ ax => ?_
  have bN := bM c d p  q
  refine sq (opk_call ax rfl (r_call (args := #[.string (Bs b)]) Try.func92 (by decide) rfl (map_arr (ml_cons (ax.get rfl) ml_nil)) rfl) bN fun cm cn r ay _ bO co bP => ?_)
  obtain ⟨j, rfl, bQ⟩ := bP
  have ad := k.kept bO (.head _)
  refine sqv ay rfl (r_move (ay.get rfl)) fun _ az => ?_
  refine sq (opk_gval az rfl rfl (g := true) (e := j) rfl (fun hg => r_fieldAddr (az.get rfl) Try.underlying26 rfl ti_9 (by decide)) fun cp aA _ => ?_)
  refine sq (opk_gval aA rfl rfl (g := true) (e := j) rfl (fun hg => r_load1 tU9 rfl (cv_get (aA.get rfl) hg) (ad.cell 2 _ rfl)) fun cq aB _ => ?_)
  refine sq (opk_gval aB rfl rfl (g := true) (e := j) rfl (fun hg => r_seql (cv_get (aB.get rfl) hg) rfl) fun cr af _ => ?_)
  refine sqv af rfl (r_pick_and (g := (true && (j == true))) (af.get rfl) (af.get rfl) (fun he => g_mkt rfl he)) fun _ aC => sqv aC rfl (r_move (aC.get rfl)) fun _ aD => ?_
  refine sq (opk_gval aD rfl rfl (g := true) (e := (j && (decide (a = ([] : Str))))) rfl (fun hg => r_fieldAddr (aD.get rfl) Try.underlying26 rfl ti_23 (by decide)) fun ct aF _ => ?_)
  refine sq (opk_gval aF rfl rfl (g := true) (e := (j && (decide (a = ([] : Str))))) rfl (fun hg => r_load1 tU23 rfl (cv_get (aF.get rfl) hg) (ad.cell 3 _ rfl)) fun cu aG _ => ?_)
  obtain ⟨m, bR, bS⟩ := bQ
  refine sq (opk_gcall aG rfl rfl (g := true) (e := (j && (decide (a = ([] : Str))))) rfl (fun hg => r_call (args := #[Sl.v i]) Try.func93 (by decide) rfl (map_arr (ml_cons (cv_get (aG.get rfl) hg) ml_nil)) rfl) (fun hg => bR ⟨(b_and_t (g_t hg)).1, (of_decide_eq_true (b_and_t (g_t hg)).2)⟩) fun cv o ag _ ah => ?_)
  have aH := ad.ext ah
  have cx : Chg [] r o := ah
  have bT := bS o ah
  refine sqv ag rfl (r_pick_and (g := (true && ((j && (decide (a = ([] : Str)))) == true))) (ag.get rfl) (ag.get rfl) (fun he => g_mkt rfl he)) fun _ aI => sqv aI rfl (r_move (aI.get rfl)) fun _ aJ => ?_
  refine sq (opk_gval aJ rfl rfl (g := true) (e := ((j && (decide (a = ([] : Str)))) && m)) rfl (fun hg => r_loadN (cs := [.int .i64 f, .string (Bs b), .string (Bs a), Sl.v i, Sl.v l]) Try.underlying26 rfl ti_26 (aJ.get rfl) (aH.part 0 _ rfl)) fun cy aK _ => ?_)
  obtain ⟨s, bU, bV⟩ := bT
  refine sq (opk_gcall aK rfl rfl (g := true) (e := ((j && (decide (a = ([] : Str)))) && m)) rfl (fun hg => r_call (args := #[.agg #[.int .i64 f, .string (Bs b), .string (Bs a), Sl.v i, Sl.v l]]) Try.func81 (by decide) rfl (map_arr (ml_cons (cv_get (aK.get rfl) hg) ml_nil)) rfl) (fun hg => bU ⟨⟨(b_and_t (b_and_t (g_t hg)).1).1, (of_decide_eq_true (b_and_t (b_and_t (g_t hg)).1).2)⟩, (b_and_t (g_t hg)).2⟩) fun cz t ai _ aj => ?_)
  have cA := aH.ext aj
  have cB : Chg [] o t := aj
  have bX := bV t aj
  refine sqv ai rfl (r_pick_and (g := (true && (((j && (decide (a = ([] : Str)))) && m) == true))) (ai.get rfl) (ai.get rfl) (fun he => g_mkt rfl he)) fun _ aL => sqv aL rfl (r_assign (aL.get rfl)) fun _ bY => sq_end ?_
  have aM := bY.kp [(2, .bool (((j && (decide (a = ([] : Str)))) && m) && s))] rfl
  refine then_normal ?_
  refine wp_ret ?_
  refine then_ret ?_
  exact res_all (vs := [.bool (((j && (decide (a = ([] : Str)))) && m) && s)]) rfl aM ⟨res_of_tmp aM rfl, trivial⟩ bX
 ·have aN := ab.2 (of_decide_eq_false hc)
  clear hc
  refine wp_skip ?_
  refine then_normal (wp_seq (wp_seq (wp_region_lit ?_)))
  refine sqv u rfl (r_fieldAddr (u.get rfl) Try.underlying26 rfl ti_23 (by decide)) fun _ aO => sqv aO rfl (r_load1 tU23 rfl (aO.get rfl) (k.cell 3 _ rfl)) fun _ aP => sqv aP rfl (r_len (aP.get rfl) tU23) fun _ aQ => sqv aQ rfl (r_gtr (aQ.get rfl) rfl) fun _ aR => sqv aR rfl (r_move (aR.get rfl)) fun _ aS => ?_
  refine sq (opk_gval aS rfl rfl (g := true) (e := (decide (0 < (i.n : Int)))) rfl (fun hg => r_fieldAddr (aS.get rfl) Try.underlying26 rfl ti_24 (by decide)) fun cC aT _ => ?_)
  refine sq (opk_gval aT rfl rfl (g := true) (e := (decide (0 < (i.n : Int)))) rfl (fun hg => r_load1 tU24 rfl (cv_get (aT.get rfl) hg) (k.cell 4 _ rfl)) fun cD aU _ => ?_)
  refine sq (opk_gval aU rfl rfl (g := true) (e := (decide (0 < (i.n : Int)))) rfl (fun hg => r_len (cv_get (aU.get rfl) hg) tU24) fun cF aV _ => ?_)
  refine sq (opk_gval aV rfl rfl (g := true) (e := (decide (0 < (i.n : Int)))) rfl (fun hg => r_gtr (cv_get (aV.get rfl) hg) rfl) fun cG ak _ => ?_)
  refine sqv ak rfl (r_pick_or (g := (true && ((decide (0 < (i.n : Int))) == false))) (ak.get rfl) (ak.get rfl) (fun he => g_mkf rfl he)) fun _ bZ => sq_end ?_
  have z := bZ.kp [(1, pB d 0), (32, .bool ((decide (0 < (i.n : Int))) || (decide (0 < (l.n : Int)))))] rfl
  refine then_normal ?_
  refine wp_cond_split (z.get rfl) (fun hc => ?_) (fun hc => ?_)
  ·have b0 := aN.1 ((b_or_t hc).imp (fun h => (of_decide_eq_true h)) (fun h => (of_decide_eq_true h)))
   clear hc
   refine wp_seq (wp_region_lit ?_)
   refine sqv z rfl (r_assign rfl) fun _ b1 => sq_end ?_
   have aX := b1.kp [(2, .bool false)] rfl
   refine then_normal ?_
   refine wp_ret ?_
   refine then_ret ?_
   have b2 := b0 c d p  q
   exact res_all (vs := [.bool false]) rfl aX ⟨res_of_tmp aX rfl, trivial⟩ b2
  ·have aY := aN.2 ⟨(of_decide_eq_false (b_or_f hc).1), (of_decide_eq_false (b_or_f hc).2)⟩
   clear hc
   refine wp_skip ?_
   refine then_normal (wp_seq (wp_seq (wp_region_lit ?_)))
   refine sqv z rfl (r_fieldAddr (z.get rfl) Try.underlying26 rfl ti_3 (by decide)) fun _ aZ => sqv aZ rfl (r_load1 tU3 rfl (aZ.get rfl) (k.cell 0 _ rfl)) fun _ b3 => sq_end ?_
   have hA80 := b3.kp [(1, pB d 0), (34, .int .i64 f)] rfl
   refine then_normal (wp_block (wp_seq (wp_region_lit ?_)))
   refine sqv hA80 rfl (r_eql (hA80.get rfl) rfl) fun _ a1 => sqv a1 rfl (r_assign (a1.get rfl)) fun _ b4 => sq_end ?_
   have x := b4.kp [(1, pB d 0), (34, .int .i64 f), (35, .bool (decide (f = 3)))] rfl
   refine then_normal ?_
   refine wp_cond_split (x.get rfl) (fun hc => ?_) (fun hc => ?_)
   ·have b5 := aY.1 (of_decide_eq_true hc)
    clear hc
    refine wp_seq (wp_region_lit ?_)
    refine sqv x rfl (r_fieldAddr (x.get rfl) Try.underlying26 rfl ti_9 (by decide)) fun _ a2 => sqv a2 rfl (r_load1 tU9 rfl (a2.get rfl) (k.cell 1 _ rfl)) fun _ a3 => sqv a3 rfl (r_seql (a3.get rfl) rfl) fun _ hA88 => sqv hA88 rfl (r_move (hA88.get rfl)) fun _ a5 => ?_
    refine sq (opk_gval a5 rfl rfl (g := true) (e := (decide (b = ([] : Str)))) rfl (fun hg => r_fieldAddr (a5.get rfl) Try.underlying26 rfl ti_9 (by decide)) fun cH a6 _ => ?_)
    refine sq (opk_gval a6 rfl rfl (g := true) (e := (decide (b = ([] : Str)))) rfl (fun hg => r_load1 tU9 rfl (cv_get (a6.get rfl) hg) (k.cell 2 _ rfl)) fun cI a7 _ => ?_)
    refine sq (opk_gval a7 rfl rfl (g := true) (e := (decide (b = ([] : Str)))) rfl (fun hg => r_sneq (cv_get (a7.get rfl) hg) rfl) fun cJ al _ => ?_)
    refine sqv al rfl (r_pick_and (g := (true && ((decide (b = ([] : Str))) == true))) (al.get rfl) (al.get rfl) (fun he => g_mkt rfl he)) fun _ a8 => sqv a8 rfl (r_move (a8.get rfl)) fun _ a9 => ?_
    refine sq (opk_gval a9 rfl rfl (g := true) (e := ((decide (b = ([] : Str))) && (decide (a ≠ ([] : Str))))) rfl (fun hg => r_fieldAddr (a9.get rfl) Try.underlying26 rfl ti_9 (by decide)) fun cK ba _ => ?_)
    refine sq (opk_gval ba rfl rfl (g := true) (e := ((decide (b = ([] : Str))) && (decide (a ≠ ([] : Str))))) rfl (fun hg => r_load1 tU9 rfl (cv_get (ba.get rfl) hg) (k.cell 2 _ rfl)) fun cL bb _ => ?_)
    refine sq (opk_gval bb rfl rfl (g := true) (e := ((decide (b = ([] : Str))) && (decide (a ≠ ([] : Str))))) rfl (fun hg => r_slen (cv_get (bb.get rfl) hg) tU9) fun cM bd _ => ?_)
    refine sq (opk_gval bd rfl rfl (g := true) (e := ((decide (b = ([] : Str))) && (decide (a ≠ ([] : Str))))) rfl (fun hg => r_leq (cv_get (bd.get rfl) hg) rfl) fun cN am _ => ?_)
    refine sqv am rfl (r_pick_and (g := (true && (((decide (b = ([] : Str))) && (decide (a ≠ ([] : Str)))) == true))) (am.get rfl) (am.get rfl) (fun he => g_mkt rfl he)) fun _ bf => sqv bf rfl (r_assign (bf.get rfl)) fun _ b6 => sq_end ?_
    have bg := b6.kp [(2, .bool (((decide (b = ([] : Str))) && (decide (a ≠ ([] : Str)))) && (decide ((a.length : Int) ≤ 4096))))] rfl
    refine then_normal ?_
    refine wp_ret ?_
    refine block_ret ?_
    refine then_ret ?_
    have b7 := b5 c d p  q
    exact res_all (vs := [.bool (((decide (b = ([] : Str))) && (decide (a ≠ ([] : Str)))) && (decide ((a.length : Int) ≤ 4096)))]) rfl bg ⟨res_of_tmp bg rfl, trivial⟩ b7
   ·have bh := aY.2 (of_decide_eq_false hc)
    clear hc
    refine wp_seq (wp_region_lit ?_)
    refine sqv x rfl (r_eql (x.get rfl) rfl) fun _ bi => sqv bi rfl (r_assign (bi.get rfl)) fun _ b8 => sq_end ?_
    have y := b8.kp [(1, pB d 0), (34, .int .i64 f), (51, .bool (decide (f = 4)))] rfl
    refine then_normal ?_
    refine wp_cond_split (y.get rfl) (fun hc => ?_) (fun hc => ?_)
    ·have b9 := bh.1 (of_decide_eq_true hc)
     clear hc
     refine wp_seq (wp_region_lit ?_)
     refine sqv y rfl (r_fieldAddr (y.get rfl) Try.underlying26 rfl ti_9 (by decide)) fun _ bj => sqv bj rfl (r_load1 tU9 rfl (bj.get rfl) (k.cell 1 _ rfl)) fun _ bk => sqv bk rfl (r_seql (bk.get rfl) rfl) fun _ bl => sqv bl rfl (r_move (bl.get rfl)) fun _ bm => ?_
     refine sq (opk_gval bm rfl rfl (g := true) (e := (decide (b = ([] : Str)))) rfl (fun hg => r_fieldAddr (bm.get rfl) Try.underlying26 rfl ti_9 (by decide)) fun cO bn _ => ?_)
     refine sq (opk_gval bn rfl rfl (g := true) (e := (decide (b = ([] : Str)))) rfl (fun hg => r_load1 tU9 rfl (cv_get (bn.get rfl) hg) (k.cell 2 _ rfl)) fun cP bo _ => ?_)
     refine sq (opk_gval bo rfl rfl (g := true) (e := (decide (b = ([] : Str)))) rfl (fun hg => r_slen (cv_get (bo.get rfl) hg) tU9) fun cQ bp _ => ?_)
     refine sq (opk_gval bp rfl rfl (g := true) (e := (decide (b = ([] : Str)))) rfl (fun hg => r_leq (cv_get (bp.get rfl) hg) rfl) fun cR an _ => ?_)
     refine sqv an rfl (r_pick_and (g := (true && ((decide (b = ([] : Str))) == true))) (an.get rfl) (an.get rfl) (fun he => g_mkt rfl he)) fun _ bq => sqv bq rfl (r_assign (bq.get rfl)) fun _ ca => sq_end ?_
     have br := ca.kp [(2, .bool ((decide (b = ([] : Str))) && (decide ((a.length : Int) ≤ 4096))))] rfl
     refine then_normal ?_
     refine wp_ret ?_
     refine block_ret ?_
     refine then_ret ?_
     have cb := b9 c d p  q
     exact res_all (vs := [.bool ((decide (b = ([] : Str))) && (decide ((a.length : Int) ≤ 4096)))]) rfl br ⟨res_of_tmp br rfl, trivial⟩ cb
    ·have bs := bh.2 (of_decide_eq_false hc)
     clear hc
     refine wp_seq (wp_region_lit ?_)
     refine sqv y rfl (r_eql (y.get rfl) rfl) fun _ bt => sqv bt rfl (r_assign (bt.get rfl)) fun _ cc => sq_end ?_
     have aa := cc.kp [(1, pB d 0), (62, .bool (decide (f = 5)))] rfl
     refine then_normal ?_
     refine wp_cond_split (aa.get rfl) (fun hc => ?_) (fun hc => ?_)
     ·have cd := bs.1 (of_decide_eq_true hc)
      clear hc
      refine wp_seq (wp_region_lit ?_)
      refine sqv aa rfl (r_fieldAddr (aa.get rfl) Try.underlying26 rfl ti_9 (by decide)) fun _ bu => sqv bu rfl (r_load1 tU9 rfl (bu.get rfl) (k.cell 2 _ rfl)) fun _ bv => sqv bv rfl (r_seql (bv.get rfl) rfl) fun _ bx => sqv bx rfl (r_move (bx.get rfl)) fun _ bz => ?_
      refine sq (opk_gval bz rfl rfl (g := true) (e := (decide (a = ([] : Str)))) rfl (fun hg => r_fieldAddr (bz.get rfl) Try.underlying26 rfl ti_9 (by decide)) fun cS bA _ => ?_)
      refine sq (opk_gval bA rfl rfl (g := true) (e := (decide (a = ([] : Str)))) rfl (fun hg => r_load1 tU9 rfl (cv_get (bA.get rfl) hg) (k.cell 1 _ rfl)) fun cT bB _ => ?_)
      refine sq (opk_gval bB rfl rfl (g := true) (e := (decide (a = ([] : Str)))) rfl (fun hg => r_slen (cv_get (bB.get rfl) hg) tU9) fun cU bC _ => ?_)
      refine sq (opk_gval bC rfl rfl (g := true) (e := (decide (a = ([] : Str)))) rfl (fun hg => r_leq (cv_get (bC.get rfl) hg) rfl) fun cX ao _ => ?_)
      refine sqv ao rfl (r_pick_and (g := (true && ((decide (a = ([] : Str))) == true))) (ao.get rfl) (ao.get rfl) (fun he => g_mkt rfl he)) fun _ bD => sqv bD rfl (r_assign (bD.get rfl)) fun _ cf => sq_end ?_
      have bF := cf.kp [(2, .bool ((decide (a = ([] : Str))) && (decide ((b.length : Int) ≤ 32))))] rfl
      refine then_normal ?_
      refine wp_ret ?_
      refine block_ret ?_
      refine then_ret ?_
      have cg := cd c d p  q
      exact res_all (vs := [.bool ((decide (a = ([] : Str))) && (decide ((b.length : Int) ≤ 32)))]) rfl bF ⟨res_of_tmp bF rfl, trivial⟩ cg
     ·have ch := bs.2 (of_decide_eq_false hc)
      clear hc
      refine wp_skip ?_
      refine block_normal ?_
      refine then_normal (wp_seq (wp_region_lit ?_))
      refine sqv aa rfl (r_assign rfl) fun _ ci => sq_end ?_
      have bG := ci.kp [(2, .bool false)] rfl
      refine then_normal ?_
      refine wp_ret ?_
      have cj := ch c d p  q
      exact res_all (vs := [.bool false]) rfl bG ⟨res_of_tmp bG rfl, trivial⟩ cj
def tree_Name.vc (b : Str) (R : Value → World → Prop) (w : World) : Prop :=
(((b = ([] : Str)) ∨ (32 < (b.length : Int))) →
R (.bool false) w) ∧
(((¬ (b = ([] : Str))) ∧ (¬ (32 < (b.length : Int)))) →
∃ (f : Int → World → Prop) (i : Int → World → Nat),
f 0 w ∧
(∀ (c : Int) (d : World), f c d →
((c < (b.length : Int)) →
((0 : Int) ≤ c ∧ c < (b.length : Int)) ∧
(((((b.getD c.toNat 0).toNat : Int) = 9) ∨ ((((b.getD c.toNat 0).toNat : Int) = 10) ∨ ((((b.getD c.toNat 0).toNat : Int) = 12) ∨ ((((b.getD c.toNat 0).toNat : Int) = 32) ∨ ((((b.getD c.toNat 0).toNat : Int) = 0) ∨ ((((b.getD c.toNat 0).toNat : Int) = 34) ∨ ((((b.getD c.toNat 0).toNat : Int) = 39) ∨ ((((b.getD c.toNat 0).toNat : Int) = 62) ∨ ((((b.getD c.toNat 0).toNat : Int) = 47) ∨ ((((b.getD c.toNat 0).toNat : Int) = 61) ∨ (((b.getD c.toNat 0).toNat : Int) = 60))))))))))) →
R (.bool false) d) ∧
(((¬ (((b.getD c.toNat 0).toNat : Int) = 9)) ∧ ((¬ (((b.getD c.toNat 0).toNat : Int) = 10)) ∧ ((¬ (((b.getD c.toNat 0).toNat : Int) = 12)) ∧ ((¬ (((b.getD c.toNat 0).toNat : Int) = 32)) ∧ ((¬ (((b.getD c.toNat 0).toNat : Int) = 0)) ∧ ((¬ (((b.getD c.toNat 0).toNat : Int) = 34)) ∧ ((¬ (((b.getD c.toNat 0).toNat : Int) = 39)) ∧ ((¬ (((b.getD c.toNat 0).toNat : Int) = 62)) ∧ ((¬ (((b.getD c.toNat 0).toNat : Int) = 47)) ∧ ((¬ (((b.getD c.toNat 0).toNat : Int) = 61)) ∧ (¬ (((b.getD c.toNat 0).toNat : Int) = 60)))))))))))) →
(((65 ≤ ((b.getD c.toNat 0).toNat : Int)) ∧ (((b.getD c.toNat 0).toNat : Int) ≤ 90)) →
R (.bool false) d) ∧
(((¬ (65 ≤ ((b.getD c.toNat 0).toNat : Int))) ∨ (¬ (((b.getD c.toNat 0).toNat : Int) ≤ 90))) →
(I64 (c + 1)) ∧
f (c + 1) d ∧ i (c + 1) d < i c d))) ∧
((¬ (c < (b.length : Int))) →
R (.bool true) d)))
theorem tree_Name.ok (b : Str) {R : Value → World → Prop} {w : World} (aa : tree_Name.vc b R w) : Calls Try.prog 92 #[.string (Bs b)] w (Ret R) := by
 refine enter [.string (Bs b)] Try.func92 rfl Try.ntmps92 rfl ?_
 intro a0 aX
 unfold tree_Name.vc at aa
 refine wp_seq (wp_region_lit ?_)
 refine sqv aX rfl (r_assign rfl) fun _ aY => sq_end ?_
 have ah := aY.kp [(0, .string (Bs b))] rfl
 refine then_normal (wp_seq (wp_seq (wp_region_lit ?_)))
 refine sqv ah rfl (r_move (ah.get rfl)) fun _ ai => sqv ai rfl (r_seql (ai.get rfl) rfl) fun _ aj => sqv aj rfl (r_move (aj.get rfl)) fun _ ak => ?_
 refine sq (opk_gval ak rfl rfl (g := true) (e := (decide (b = ([] : Str)))) rfl (fun hg => r_move (ak.get rfl)) fun a7 al _ => ?_)
 refine sq (opk_gval al rfl rfl (g := true) (e := (decide (b = ([] : Str)))) rfl (fun hg => r_slen (cv_get (al.get rfl) hg) tU9) fun a8 am _ => ?_)
 refine sq (opk_gval am rfl rfl (g := true) (e := (decide (b = ([] : Str)))) rfl (fun hg => r_gtr (cv_get (am.get rfl) hg) rfl) fun a9 ab _ => ?_)
 refine sqv ab rfl (r_pick_or (g := (true && ((decide (b = ([] : Str))) == false))) (ab.get rfl) (ab.get rfl) (fun he => g_mkf rfl he)) fun _ aZ => sq_end ?_
 have j := aZ.kp [(0, .string (Bs b)), (11, .bool ((decide (b = ([] : Str))) || (decide (32 < (b.length : Int)))))] rfl
 refine then_normal ?_
 refine wp_cond_split (j.get rfl) (fun hc => ?_) (fun hc => ?_)
 ·have ht12 := aa.1 ((b_or_t hc).imp (fun h => (of_decide_eq_true h)) (fun h => (of_decide_eq_true h)))
  clear hc
  refine wp_seq (wp_region_lit ?_)
  refine sqv j rfl (r_assign rfl) fun _ a1 => sq_end ?_
  have an := a1.kp [(2, .bool false)] rfl
  refine then_normal ?_
  refine wp_ret ?_
  refine then_ret ?_
  exact res_all (vs := [.bool false]) rfl an ⟨res_of_tmp an rfl, trivial⟩ ht12
 ·have a2 := aa.2 ⟨(of_decide_eq_false (b_or_f hc).1), (of_decide_eq_false (b_or_f hc).2)⟩
  clear hc
  refine wp_skip ?_
  refine then_normal (wp_seq (wp_seq (wp_region_lit ?_)))
  refine sqv j rfl (r_move (j.get rfl)) fun _ ao => sqv ao rfl (r_slen (ao.get rfl) tU9) fun _ a3 => sqv a3 rfl (r_move rfl) fun _ a4 => sq_end ?_
  have a5 := a4.kp [(0, .string (Bs b)), (13, .int .i64 (b.length : Int)), (14, .int .i64 0)] rfl
  refine then_normal (wp_block ?_)
  obtain ⟨f, i, a6, ht9272⟩ := a2
  refine wp_loop_st (σ := Int × World) (fun s a w => Ag 40 a [(0, .string (Bs b)), (13, .int .i64 (b.length : Int)), (14, .int .i64 s.1)] ∧ w = s.2 ∧ f s.1 s.2) (fun s => i s.1 s.2) (0, w) ⟨a5.kp [(0, .string (Bs b)), (13, .int .i64 (b.length : Int)), (14, .int .i64 0)] rfl, rfl, a6⟩ ?_
  rintro ⟨c, d⟩ ci w_ ⟨ad, hw_, hJ9275⟩
  have hw_ : d = w_ := hw_.symm
  subst hw_
  have ap := ht9272 c _ hJ9275
  refine wp_seq (wp_region_lit ?_)
  refine sqv ad rfl (r_lss (ad.get rfl) (ad.get rfl)) fun _ hA9276 => sq_end ?_
  have k := hA9276.kp [(0, .string (Bs b)), (13, .int .i64 (b.length : Int)), (14, .int .i64 c), (15, .bool (decide (c < (b.length : Int))))] rfl
  refine then_normal (wp_seq ?_)
  refine wp_cond_split (k.get rfl) (fun hc => ?_) (fun hc => ?_)
  ·have ba := ap.1 (of_decide_eq_true hc)
   clear hc
   refine wp_skip ?_
   refine then_normal (wp_seq (wp_block (wp_seq (wp_region_lit ?_))))
   refine sqv k rfl (r_move (k.get rfl)) fun _ aq => sqv aq rfl (r_assign (aq.get rfl)) fun _ bb => sq_end ?_
   have ar := bb.kp [(0, .string (Bs b)), (3, .int .i64 c), (13, .int .i64 (b.length : Int)), (14, .int .i64 c)] rfl
   refine then_normal (wp_seq (wp_region_lit ?_))
   refine sqv ar rfl (r_move (ar.get rfl)) fun _ au => sqv au rfl (r_move (au.get rfl)) fun _ af => ?_
   obtain ⟨bd, av⟩ := ba
   refine sqv af rfl (r_sindex (af.get rfl) (af.get rfl) tU9 bd) fun _ ax => sqv ax rfl (r_assign (ax.get rfl)) fun _ bf => sq_end ?_
   have ay := bf.kp [(0, .string (Bs b)), (4, .int .u8 ((b.getD c.toNat 0).toNat : Int)), (13, .int .i64 (b.length : Int)), (14, .int .i64 c)] rfl
   refine then_normal (wp_seq (wp_region_lit ?_))
   refine sqv ay rfl (r_move (ay.get rfl)) fun _ bg => sq_end ?_
   have az := bg.kp [(0, .string (Bs b)), (4, .int .u8 ((b.getD c.toNat 0).toNat : Int)), (13, .int .i64 (b.length : Int)), (14, .int .i64 c), (20, .int .u8 ((b.getD c.toNat 0).toNat : Int))] rfl
   refine then_normal (wp_block (wp_seq (wp_seq (wp_region_lit ?_))))
   refine sqv az rfl (r_eql (az.get rfl) rfl) fun _ aA => sqv aA rfl (r_assign (aA.get rfl)) fun _ bh => sq_end ?_
   have l := bh.kp [(0, .string (Bs b)), (4, .int .u8 ((b.getD c.toNat 0).toNat : Int)), (13, .int .i64 (b.length : Int)), (14, .int .i64 c), (20, .int .u8 ((b.getD c.toNat 0).toNat : Int)), (27, .bool (decide (((b.getD c.toNat 0).toNat : Int) = 9)))] rfl
   refine then_normal ?_
   refine wp_meet (fun a wq => Ag 40 a [(0, .string (Bs b)), (4, .int .u8 ((b.getD c.toNat 0).toNat : Int)), (13, .int .i64 (b.length : Int)), (14, .int .i64 c), (27, .bool ((decide (((b.getD c.toNat 0).toNat : Int) = 9)) || ((decide (((b.getD c.toNat 0).toNat : Int) = 10)) || ((decide (((b.getD c.toNat 0).toNat : Int) = 12)) || ((decide (((b.getD c.toNat 0).toNat : Int) = 32)) || ((decide (((b.getD c.toNat 0).toNat : Int) = 0)) || ((decide (((b.getD c.toNat 0).toNat : Int) = 34)) || ((decide (((b.getD c.toNat 0).toNat : Int) = 39)) || ((decide (((b.getD c.toNat 0).toNat : Int) = 62)) || ((decide (((b.getD c.toNat 0).toNat : Int) = 47)) || ((decide (((b.getD c.toNat 0).toNat : Int) = 61)) || (decide (((b.getD c.toNat 0).toNat : Int) = 60)))))))))))))] ∧ wq = d) ?_ ?_
   ·refine wp_cond_split (l.get rfl) (fun hc => ?_) (fun hc => ?_)
    ·refine wp_skip ?_
     have bi := l.say (t := 27) rfl (.bool ((decide (((b.getD c.toNat 0).toNat : Int) = 9)) || ((decide (((b.getD c.toNat 0).toNat : Int) = 10)) || ((decide (((b.getD c.toNat 0).toNat : Int) = 12)) || ((decide (((b.getD c.toNat 0).toNat : Int) = 32)) || ((decide (((b.getD c.toNat 0).toNat : Int) = 0)) || ((decide (((b.getD c.toNat 0).toNat : Int) = 34)) || ((decide (((b.getD c.toNat 0).toNat : Int) = 39)) || ((decide (((b.getD c.toNat 0).toNat : Int) = 62)) || ((decide (((b.getD c.toNat 0).toNat : Int) = 47)) || ((decide (((b.getD c.toNat 0).toNat : Int) = 61)) || (decide (((b.getD c.toNat 0).toNat : Int) = 60))))))))))))) (by rw [hc]; rfl)
     exact then_normal ⟨bi.kp [(0, .string (Bs b)), (4, .int .u8 ((b.getD c.toNat 0).toNat : Int)), (13, .int .i64 (b.length : Int)), (14, .int .i64 c), (27, .bool ((decide (((b.getD c.toNat 0).toNat : Int) = 9)) || ((decide (((b.getD c.toNat 0).toNat : Int) = 10)) || ((decide (((b.getD c.toNat 0).toNat : Int) = 12)) || ((decide (((b.getD c.toNat 0).toNat : Int) = 32)) || ((decide (((b.getD c.toNat 0).toNat : Int) = 0)) || ((decide (((b.getD c.toNat 0).toNat : Int) = 34)) || ((decide (((b.getD c.toNat 0).toNat : Int) = 39)) || ((decide (((b.getD c.toNat 0).toNat : Int) = 62)) || ((decide (((b.getD c.toNat 0).toNat : Int) = 47)) || ((decide (((b.getD c.toNat 0).toNat : Int) = 61)) || (decide (((b.getD c.toNat 0).toNat : Int) = 60)))))))))))))] rfl, rfl⟩
    ·refine wp_seq (wp_region_lit ?_)
     refine sqv l rfl (r_eql (l.get rfl) rfl) fun _ aB => sqv aB rfl (r_assign (aB.get rfl)) fun _ bj => sq_end ?_
     have m := bj.kp [(0, .string (Bs b)), (4, .int .u8 ((b.getD c.toNat 0).toNat : Int)), (13, .int .i64 (b.length : Int)), (14, .int .i64 c), (20, .int .u8 ((b.getD c.toNat 0).toNat : Int)), (27, .bool (decide (((b.getD c.toNat 0).toNat : Int) = 10)))] rfl
     refine then_normal ?_
     refine wp_meet (fun a wq => Ag 40 a [(0, .string (Bs b)), (4, .int .u8 ((b.getD c.toNat 0).toNat : Int)), (13, .int .i64 (b.length : Int)), (14, .int .i64 c), (27, .bool ((decide (((b.getD c.toNat 0).toNat : Int) = 10)) || ((decide (((b.getD c.toNat 0).toNat : Int) = 12)) || ((decide (((b.getD c.toNat 0).toNat : Int) = 32)) || ((decide (((b.getD c.toNat 0).toNat : Int) = 0)) || ((decide (((b.getD c.toNat 0).toNat : Int) = 34)) || ((decide (((b.getD c.toNat 0).toNat : Int) = 39)) || ((decide (((b.getD c.toNat 0).toNat : Int) = 62)) || ((decide (((b.getD c.toNat 0).toNat : Int) = 47)) || ((decide (((b.getD c.toNat 0).toNat : Int) = 61)) || (decide (((b.getD c.toNat 0).toNat : Int) = 60))))))))))))] ∧ wq = d) ?_ ?_
     ·refine wp_cond_split (m.get rfl) (fun hc => ?_) (fun hc => ?_)
      ·refine wp_skip ?_
       have bk := m.say (t := 27) rfl (.bool ((decide (((b.getD c.toNat 0).toNat : Int) = 10)) || ((decide (((b.getD c.toNat 0).toNat : Int) = 12)) || ((decide (((b.getD c.toNat 0).toNat : Int) = 32)) || ((decide (((b.getD c.toNat 0).toNat : Int) = 0)) || ((decide (((b.getD c.toNat 0).toNat : Int) = 34)) || ((decide (((b.getD c.toNat 0).toNat : Int) = 39)) || ((decide (((b.getD c.toNat 0).toNat : Int) = 62)) || ((decide (((b.getD c.toNat 0).toNat : Int) = 47)) || ((decide (((b.getD c.toNat 0).toNat : Int) = 61)) || (decide (((b.getD c.toNat 0).toNat : Int) = 60)))))))))))) (by rw [hc]; rfl)
       exact then_normal ⟨bk.kp [(0, .string (Bs b)), (4, .int .u8 ((b.getD c.toNat 0).toNat : Int)), (13, .int .i64 (b.length : Int)), (14, .int .i64 c), (27, .bool ((decide (((b.getD c.toNat 0).toNat : Int) = 10)) || ((decide (((b.getD c.toNat 0).toNat : Int) = 12)) || ((decide (((b.getD c.toNat 0).toNat : Int) = 32)) || ((decide (((b.getD c.toNat 0).toNat : Int) = 0)) || ((decide (((b.getD c.toNat 0).toNat : Int) = 34)) || ((decide (((b.getD c.toNat 0).toNat : Int) = 39)) || ((decide (((b.getD c.toNat 0).toNat : Int) = 62)) || ((decide (((b.getD c.toNat 0).toNat : Int) = 47)) || ((decide (((b.getD c.toNat 0).toNat : Int) = 61)) || (decide (((b.getD c.toNat 0).toNat : Int) = 60))))))))))))] rfl, rfl⟩
      ·refine wp_seq (wp_region_lit ?_)
       refine sqv m rfl (r_eql (m.get rfl) rfl) fun _ aC => sqv aC rfl (r_assign (aC.get rfl)) fun _ bl => sq_end ?_
       have n := bl.kp [(0, .string (Bs b)), (4, .int .u8 ((b.getD c.toNat 0).toNat : Int)), (13, .int .i64 (b.length : Int)), (14, .int .i64 c), (20, .int .u8 ((b.getD c.toNat 0).toNat : Int)), (27, .bool (decide (((b.getD c.toNat 0).toNat : Int) = 12)))] rfl
       refine then_normal ?_
       refine wp_meet (fun a wq => Ag 40 a [(0, .string (Bs b)), (4, .int .u8 ((b.getD c.toNat 0).toNat : Int)), (13, .int .i64 (b.length : Int)), (14, .int .i64 c), (27, .bool ((decide (((b.getD c.toNat 0).toNat : Int) = 12)) || ((decide (((b.getD c.toNat 0).toNat : Int) = 32)) || ((decide (((b.getD c.toNat 0).toNat : Int) = 0)) || ((decide (((b.getD c.toNat 0).toNat : Int) = 34)) || ((decide (((b.getD c.toNat 0).toNat : Int) = 39)) || ((decide (((b.getD c.toNat 0).toNat : Int) = 62)) || ((decide (((b.getD c.toNat 0).toNat : Int) = 47)) || ((decide (((b.getD c.toNat 0).toNat : Int) = 61)) || (decide (((b.getD c.toNat 0).toNat : Int) = 60)))))))))))] ∧ wq = d) ?_ ?_
       ·refine wp_cond_split (n.get rfl) (fun hc => ?_) (fun hc => ?_)
        ·refine wp_skip ?_
         have bm := n.say (t := 27) rfl (.bool ((decide (((b.getD c.toNat 0).toNat : Int) = 12)) || ((decide (((b.getD c.toNat 0).toNat : Int) = 32)) || ((decide (((b.getD c.toNat 0).toNat : Int) = 0)) || ((decide (((b.getD c.toNat 0).toNat : Int) = 34)) || ((decide (((b.getD c.toNat 0).toNat : Int) = 39)) || ((decide (((b.getD c.toNat 0).toNat : Int) = 62)) || ((decide (((b.getD c.toNat 0).toNat : Int) = 47)) || ((decide (((b.getD c.toNat 0).toNat : Int) = 61)) || (decide (((b.getD c.toNat 0).toNat : Int) = 60))))))))))) (by rw [hc]; rfl)
         exact then_normal ⟨bm.kp [(0, .string (Bs b)), (4, .int .u8 ((b.getD c.toNat 0).toNat : Int)), (13, .int .i64 (b.length : Int)), (14, .int .i64 c), (27, .bool ((decide (((b.getD c.toNat 0).toNat : Int) = 12)) || ((decide (((b.getD c.toNat 0).toNat : Int) = 32)) || ((decide (((b.getD c.toNat 0).toNat : Int) = 0)) || ((decide (((b.getD c.toNat 0).toNat : Int) = 34)) || ((decide (((b.getD c.toNat 0).toNat : Int) = 39)) || ((decide (((b.getD c.toNat 0).toNat : Int) = 62)) || ((decide (((b.getD c.toNat 0).toNat : Int) = 47)) || ((decide (((b.getD c.toNat 0).toNat : Int) = 61)) || (decide (((b.getD c.toNat 0).toNat : Int) = 60)))))))))))] rfl, rfl⟩
        ·refine wp_seq (wp_region_lit ?_)
         refine sqv n rfl (r_eql (n.get rfl) rfl) fun _ aD => sqv aD rfl (r_assign (aD.get rfl)) fun _ bn => sq_end ?_
         have o := bn.kp [(0, .string (Bs b)), (4, .int .u8 ((b.getD c.toNat 0).toNat : Int)), (13, .int .i64 (b.length : Int)), (14, .int .i64 c), (20, .int .u8 ((b.getD c.toNat 0).toNat : Int)), (27, .bool (decide (((b.getD c.toNat 0).toNat : Int) = 32)))] rfl
         refine then_normal ?_
         refine wp_meet (fun a wq => Ag 40 a [(0, .string (Bs b)), (4, .int .u8 ((b.getD c.toNat 0).toNat : Int)), (13, .int .i64 (b.length : Int)), (14, .int .i64 c), (27, .bool ((decide (((b.getD c.toNat 0).toNat : Int) = 32)) || ((decide (((b.getD c.toNat 0).toNat : Int) = 0)) || ((decide (((b.getD c.toNat 0).toNat : Int) = 34)) || ((decide (((b.getD c.toNat 0).toNat : Int) = 39)) || ((decide (((b.getD c.toNat 0).toNat : Int) = 62)) || ((decide (((b.getD c.toNat 0).toNat : Int) = 47)) || ((decide (((b.getD c.toNat 0).toNat : Int) = 61)) || (decide (((b.getD c.toNat 0).toNat : Int) = 60))))))))))] ∧ wq = d) ?_ ?_
         ·refine wp_cond_split (o.get rfl) (fun hc => ?_) (fun hc => ?_)
          ·refine wp_skip ?_
           have bo := o.say (t := 27) rfl (.bool ((decide (((b.getD c.toNat 0).toNat : Int) = 32)) || ((decide (((b.getD c.toNat 0).toNat : Int) = 0)) || ((decide (((b.getD c.toNat 0).toNat : Int) = 34)) || ((decide (((b.getD c.toNat 0).toNat : Int) = 39)) || ((decide (((b.getD c.toNat 0).toNat : Int) = 62)) || ((decide (((b.getD c.toNat 0).toNat : Int) = 47)) || ((decide (((b.getD c.toNat 0).toNat : Int) = 61)) || (decide (((b.getD c.toNat 0).toNat : Int) = 60)))))))))) (by rw [hc]; rfl)
           exact then_normal ⟨bo.kp [(0, .string (Bs b)), (4, .int .u8 ((b.getD c.toNat 0).toNat : Int)), (13, .int .i64 (b.length : Int)), (14, .int .i64 c), (27, .bool ((decide (((b.getD c.toNat 0).toNat : Int) = 32)) || ((decide (((b.getD c.toNat 0).toNat : Int) = 0)) || ((decide (((b.getD c.toNat 0).toNat : Int) = 34)) || ((decide (((b.getD c.toNat 0).toNat : Int) = 39)) || ((decide (((b.getD c.toNat 0).toNat : Int) = 62)) || ((decide (((b.getD c.toNat 0).toNat : Int) = 47)) || ((decide (((b.getD c.toNat 0).toNat : Int) = 61)) || (decide (((b.getD c.toNat 0).toNat : Int) = 60))))))))))] rfl, rfl⟩
          ·refine wp_seq (wp_region_lit ?_)
           refine sqv o rfl (r_eql (o.get rfl) rfl) fun _ aF => sqv aF rfl (r_assign (aF.get rfl)) fun _ bp => sq_end ?_
           have p := bp.kp [(0, .string (Bs b)), (4, .int .u8 ((b.getD c.toNat 0).toNat : Int)), (13, .int .i64 (b.length : Int)), (14, .int .i64 c), (20, .int .u8 ((b.getD c.toNat 0).toNat : Int)), (27, .bool (decide (((b.getD c.toNat 0).toNat : Int) = 0)))] rfl
           refine then_normal ?_
           refine wp_meet (fun a wq => Ag 40 a [(0, .string (Bs b)), (4, .int .u8 ((b.getD c.toNat 0).toNat : Int)), (13, .int .i64 (b.length : Int)), (14, .int .i64 c), (27, .bool ((decide (((b.getD c.toNat 0).toNat : Int) = 0)) || ((decide (((b.getD c.toNat 0).toNat : Int) = 34)) || ((decide (((b.getD c.toNat 0).toNat : Int) = 39)) || ((decide (((b.getD c.toNat 0).toNat : Int) = 62)) || ((decide (((b.getD c.toNat 0).toNat : Int) = 47)) || ((decide (((b.getD c.toNat 0).toNat : Int) = 61)) || (decide (((b.getD c.toNat 0).toNat : Int) = 60)))))))))] ∧ wq = d) ?_ ?_
           ·refine wp_cond_split (p.get rfl) (fun hc => ?_) (fun hc => ?_)
            ·refine wp_skip ?_
             have bq := p.say (t := 27) rfl (.bool ((decide (((b.getD c.toNat 0).toNat : Int) = 0)) || ((decide (((b.getD c.toNat 0).toNat : Int) = 34)) || ((decide (((b.getD c.toNat 0).toNat : Int) = 39)) || ((decide (((b.getD c.toNat 0).toNat : Int) = 62)) || ((decide (((b.getD c.toNat 0).toNat : Int) = 47)) || ((decide (((b.getD c.toNat 0).toNat : Int) = 61)) || (decide (((b.getD c.toNat 0).toNat : Int) = 60))))))))) (by rw [hc]; rfl)
             exact then_normal ⟨bq.kp [(0, .string (Bs b)), (4, .int .u8 ((b.getD c.toNat 0).toNat : Int)), (13, .int .i64 (b.length : Int)), (14, .int .i64 c), (27, .bool ((decide (((b.getD c.toNat 0).toNat : Int) = 0)) || ((decide (((b.getD c.toNat 0).toNat : Int) = 34)) || ((decide (((b.getD c.toNat 0).toNat : Int) = 39)) || ((decide (((b.getD c.toNat 0).toNat : Int) = 62)) || ((decide (((b.getD c.toNat 0).toNat : Int) = 47)) || ((decide (((b.getD c.toNat 0).toNat : Int) = 61)) || (decide (((b.getD c.toNat 0).toNat : Int) = 60)))))))))] rfl, rfl⟩
            ·refine wp_seq (wp_region_lit ?_)
             refine sqv p rfl (r_eql (p.get rfl) rfl) fun _ aG => sqv aG rfl (r_assign (aG.get rfl)) fun _ br => sq_end ?_
             have q := br.kp [(0, .string (Bs b)), (4, .int .u8 ((b.getD c.toNat 0).toNat : Int)), (13, .int .i64 (b.length : Int)), (14, .int .i64 c), (20, .int .u8 ((b.getD c.toNat 0).toNat : Int)), (27, .bool (decide (((b.getD c.toNat 0).toNat : Int) = 34)))] rfl
             refine then_normal ?_
             refine wp_meet (fun a wq => Ag 40 a [(0, .string (Bs b)), (4, .int .u8 ((b.getD c.toNat 0).toNat : Int)), (13, .int .i64 (b.length : Int)), (14, .int .i64 c), (27, .bool ((decide (((b.getD c.toNat 0).toNat : Int) = 34)) || ((decide (((b.getD c.toNat 0).toNat : Int) = 39)) || ((decide (((b.getD c.toNat 0).toNat : Int) = 62)) || ((decide (((b.getD c.toNat 0).toNat : Int) = 47)) || ((decide (((b.getD c.toNat 0).toNat : Int) = 61)) || (decide (((b.getD c.toNat 0).toNat : Int) = 60))))))))] ∧ wq = d) ?_ ?_
             ·refine wp_cond_split (q.get rfl) (fun hc => ?_) (fun hc => ?_)
              ·refine wp_skip ?_
               have bs := q.say (t := 27) rfl (.bool ((decide (((b.getD c.toNat 0).toNat : Int) = 34)) || ((decide (((b.getD c.toNat 0).toNat : Int) = 39)) || ((decide (((b.getD c.toNat 0).toNat : Int) = 62)) || ((decide (((b.getD c.toNat 0).toNat : Int) = 47)) || ((decide (((b.getD c.toNat 0).toNat : Int) = 61)) || (decide (((b.getD c.toNat 0).toNat : Int) = 60)))))))) (by rw [hc]; rfl)
               exact then_normal ⟨bs.kp [(0, .string (Bs b)), (4, .int .u8 ((b.getD c.toNat 0).toNat : Int)), (13, .int .i64 (b.length : Int)), (14, .int .i64 c), (27, .bool ((decide (((b.getD c.toNat 0).toNat : Int) = 34)) || ((decide (((b.getD c.toNat 0).toNat : Int) = 39)) || ((decide (((b.getD c.toNat 0).toNat : Int) = 62)) || ((decide (((b.getD c.toNat 0).toNat : Int) = 47)) || ((decide (((b.getD c.toNat 0).toNat : Int) = 61)) || (decide (((b.getD c.toNat 0).toNat : Int) = 60))))))))] rfl, rfl⟩
              ·refine wp_seq (wp_region_lit ?_)
               refine sqv q rfl (r_eql (q.get rfl) rfl) fun _ aH => sqv aH rfl (r_assign (aH.get rfl)) fun _ bt => sq_end ?_
               have r := bt.kp [(0, .string (Bs b)), (4, .int .u8 ((b.getD c.toNat 0).toNat : Int)), (13, .int .i64 (b.length : Int)), (14, .int .i64 c), (20, .int .u8 ((b.getD c.toNat 0).toNat : Int)), (27, .bool (decide (((b.getD c.toNat 0).toNat : Int) = 39)))] rfl
               refine then_normal ?_
               refine wp_meet (fun a wq => Ag 40 a [(0, .string (Bs b)), (4, .int .u8 ((b.getD c.toNat 0).toNat : Int)), (13, .int .i64 (b.length : Int)), (14, .int .i64 c), (27, .bool ((decide (((b.getD c.toNat 0).toNat : Int) = 39)) || ((decide (((b.getD c.toNat 0).toNat : Int) = 62)) || ((decide (((b.getD c.toNat 0).toNat : Int) = 47)) || ((decide (((b.getD c.toNat 0).toNat : Int) = 61)) || (decide (((b.getD c.toNat 0).toNat : Int) = 60)))))))] ∧ wq = d) ?_ ?_
               ·refine wp_cond_split (r.get rfl) (fun hc => ?_) (fun hc => ?_)
                ·refine wp_skip ?_
                 have bu := r.say (t := 27) rfl (.bool ((decide (((b.getD c.toNat 0).toNat : Int) = 39)) || ((decide (((b.getD c.toNat 0).toNat : Int) = 62)) || ((decide (((b.getD c.toNat 0).toNat : Int) = 47)) || ((decide (((b.getD c.toNat 0).toNat : Int) = 61)) || (decide (((b.getD c.toNat 0).toNat : Int) = 60))))))) (by rw [hc]; rfl)
                 exact then_normal ⟨bu.kp [(0, .string (Bs b)), (4, .int .u8 ((b.getD c.toNat 0).toNat : Int)), (13, .int .i64 (b.length : Int)), (14, .int .i64 c), (27, .bool ((decide (((b.getD c.toNat 0).toNat : Int) = 39)) || ((decide (((b.getD c.toNat 0).toNat : Int) = 62)) || ((decide (((b.getD c.toNat 0).toNat : Int) = 47)) || ((decide (((b.getD c.toNat 0).toNat : Int) = 61)) || (decide (((b.getD c.toNat 0).toNat : Int) = 60)))))))] rfl, rfl⟩
                ·refine wp_seq (wp_region_lit ?_)
                 refine sqv r rfl (r_eql (r.get rfl) rfl) fun _ aI => sqv aI rfl (r_assign (aI.get rfl)) fun _ bv => sq_end ?_
                 have u := bv.kp [(0, .string (Bs b)), (4, .int .u8 ((b.getD c.toNat 0).toNat : Int)), (13, .int .i64 (b.length : Int)), (14, .int .i64 c), (20, .int .u8 ((b.getD c.toNat 0).toNat : Int)), (27, .bool (decide (((b.getD c.toNat 0).toNat : Int) = 62)))] rfl
                 refine then_normal ?_
                 refine wp_meet (fun a wq => Ag 40 a [(0, .string (Bs b)), (4, .int .u8 ((b.getD c.toNat 0).toNat : Int)), (13, .int .i64 (b.length : Int)), (14, .int .i64 c), (27, .bool ((decide (((b.getD c.toNat 0).toNat : Int) = 62)) || ((decide (((b.getD c.toNat 0).toNat : Int) = 47)) || ((decide (((b.getD c.toNat 0).toNat : Int) = 61)) || (decide (((b.getD c.toNat 0).toNat : Int) = 60))))))] ∧ wq = d) ?_ ?_
                 ·refine wp_cond_split (u.get rfl) (fun hc => ?_) (fun hc => ?_)
                  ·refine wp_skip ?_
                   have bx := u.say (t := 27) rfl (.bool ((decide (((b.getD c.toNat 0).toNat : Int) = 62)) || ((decide (((b.getD c.toNat 0).toNat : Int) = 47)) || ((decide (((b.getD c.toNat 0).toNat : Int) = 61)) || (decide (((b.getD c.toNat 0).toNat : Int) = 60)))))) (by rw [hc]; rfl)
                   exact then_normal ⟨bx.kp [(0, .string (Bs b)), (4, .int .u8 ((b.getD c.toNat 0).toNat : Int)), (13, .int .i64 (b.length : Int)), (14, .int .i64 c), (27, .bool ((decide (((b.getD c.toNat 0).toNat : Int) = 62)) || ((decide (((b.getD c.toNat 0).toNat : Int) = 47)) || ((decide (((b.getD c.toNat 0).toNat : Int) = 61)) || (decide (((b.getD c.toNat 0).toNat : Int) = 60))))))] rfl, rfl⟩
                  ·refine wp_seq (wp_region_lit ?_)
                   refine sqv u rfl (r_eql (u.get rfl) rfl) fun _ aJ => sqv aJ rfl (r_assign (aJ.get rfl)) fun _ bz => sq_end ?_
                   have v := bz.kp [(0, .string (Bs b)), (4, .int .u8 ((b.getD c.toNat 0).toNat : Int)), (13, .int .i64 (b.length : Int)), (14, .int .i64 c), (20, .int .u8 ((b.getD c.toNat 0).toNat : Int)), (27, .bool (decide (((b.getD c.toNat 0).toNat : Int) = 47)))] rfl
                   refine then_normal ?_
                   refine wp_meet (fun a wq => Ag 40 a [(0, .string (Bs b)), (4, .int .u8 ((b.getD c.toNat 0).toNat : Int)), (13, .int .i64 (b.length : Int)), (14, .int .i64 c), (27, .bool ((decide (((b.getD c.toNat 0).toNat : Int) = 47)) || ((decide (((b.getD c.toNat 0).toNat : Int) = 61)) || (decide (((b.getD c.toNat 0).toNat : Int) = 60)))))] ∧ wq = d) ?_ ?_
                   ·refine wp_cond_split (v.get rfl) (fun hc => ?_) (fun hc => ?_)
                    ·refine wp_skip ?_
                     have bA := v.say (t := 27) rfl (.bool ((decide (((b.getD c.toNat 0).toNat : Int) = 47)) || ((decide (((b.getD c.toNat 0).toNat : Int) = 61)) || (decide (((b.getD c.toNat 0).toNat : Int) = 60))))) (by rw [hc]; rfl)
                     exact then_normal ⟨bA.kp [(0, .string (Bs b)), (4, .int .u8 ((b.getD c.toNat 0).toNat : Int)), (13, .int .i64 (b.length : Int)), (14, .int .i64 c), (27, .bool ((decide (((b.getD c.toNat 0).toNat : Int) = 47)) || ((decide (((b.getD c.toNat 0).toNat : Int) = 61)) || (decide (((b.getD c.toNat 0).toNat : Int) = 60)))))] rfl, rfl⟩
                    ·refine wp_seq (wp_region_lit ?_)
                     refine sqv v rfl (r_eql (v.get rfl) rfl) fun _ aK => sqv aK rfl (r_assign (aK.get rfl)) fun _ bB => sq_end ?_
                     have x := bB.kp [(0, .string (Bs b)), (4, .int .u8 ((b.getD c.toNat 0).toNat : Int)), (13, .int .i64 (b.length : Int)), (14, .int .i64 c), (20, .int .u8 ((b.getD c.toNat 0).toNat : Int)), (27, .bool (decide (((b.getD c.toNat 0).toNat : Int) = 61)))] rfl
                     refine then_normal ?_
                     refine wp_meet (fun a wq => Ag 40 a [(0, .string (Bs b)), (4, .int .u8 ((b.getD c.toNat 0).toNat : Int)), (13, .int .i64 (b.length : Int)), (14, .int .i64 c), (27, .bool ((decide (((b.getD c.toNat 0).toNat : Int) = 61)) || (decide (((b.getD c.toNat 0).toNat : Int) = 60))))] ∧ wq = d) ?_ ?_
                     ·refine wp_cond_split (x.get rfl) (fun hc => ?_) (fun hc => ?_)
                      ·refine wp_skip ?_
                       have bC := x.say (t := 27) rfl (.bool ((decide (((b.getD c.toNat 0).toNat : Int) = 61)) || (decide (((b.getD c.toNat 0).toNat : Int) = 60)))) (by rw [hc]; rfl)
                       exact then_normal ⟨bC.kp [(0, .string (Bs b)), (4, .int .u8 ((b.getD c.toNat 0).toNat : Int)), (13, .int .i64 (b.length : Int)), (14, .int .i64 c), (27, .bool ((decide (((b.getD c.toNat 0).toNat : Int) = 61)) || (decide (((b.getD c.toNat 0).toNat : Int) = 60))))] rfl, rfl⟩
                      ·refine wp_region_lit ?_
                       refine sqv x rfl (r_eql (x.get rfl) rfl) fun _ aL => sqv aL rfl (r_assign (aL.get rfl)) fun _ bD => sq_end ?_
                       have bF := bD.kp [(0, .string (Bs b)), (4, .int .u8 ((b.getD c.toNat 0).toNat : Int)), (13, .int .i64 (b.length : Int)), (14, .int .i64 c), (27, .bool (decide (((b.getD c.toNat 0).toNat : Int) = 60)))] rfl
                       have bG := bF.say (t := 27) rfl (.bool ((decide (((b.getD c.toNat 0).toNat : Int) = 61)) || (decide (((b.getD c.toNat 0).toNat : Int) = 60)))) (by rw [hc]; rfl)
                       exact then_normal ⟨bG.kp [(0, .string (Bs b)), (4, .int .u8 ((b.getD c.toNat 0).toNat : Int)), (13, .int .i64 (b.length : Int)), (14, .int .i64 c), (27, .bool ((decide (((b.getD c.toNat 0).toNat : Int) = 61)) || (decide (((b.getD c.toNat 0).toNat : Int) = 60))))] rfl, rfl⟩
                     ·rintro cj w_ ⟨bH, hw_⟩
                      have hw_ : d = w_ := hw_.symm
                      subst hw_
                      have bI := bH.say (t := 27) rfl (.bool ((decide (((b.getD c.toNat 0).toNat : Int) = 47)) || ((decide (((b.getD c.toNat 0).toNat : Int) = 61)) || (decide (((b.getD c.toNat 0).toNat : Int) = 60))))) (by rw [hc]; rfl)
                      exact then_normal ⟨bI.kp [(0, .string (Bs b)), (4, .int .u8 ((b.getD c.toNat 0).toNat : Int)), (13, .int .i64 (b.length : Int)), (14, .int .i64 c), (27, .bool ((decide (((b.getD c.toNat 0).toNat : Int) = 47)) || ((decide (((b.getD c.toNat 0).toNat : Int) = 61)) || (decide (((b.getD c.toNat 0).toNat : Int) = 60)))))] rfl, rfl⟩
                   ·rintro ck w_ ⟨bJ, hw_⟩
                    have hw_ : d = w_ := hw_.symm
                    subst hw_
                    have bK := bJ.say (t := 27) rfl (.bool ((decide (((b.getD c.toNat 0).toNat : Int) = 62)) || ((decide (((b.getD c.toNat 0).toNat : Int) = 47)) || ((decide (((b.getD c.toNat 0).toNat : Int) = 61)) || (decide (((b.getD c.toNat 0).toNat : Int) = 60)))))) (by rw [hc]; rfl)
                    exact then_normal ⟨bK.kp [(0, .string (Bs b)), (4, .int .u8 ((b.getD c.toNat 0).toNat : Int)), (13, .int .i64 (b.length : Int)), (14, .int .i64 c), (27, .bool ((decide (((b.getD c.toNat 0).toNat : Int) = 62)) || ((decide (((b.getD c.toNat 0).toNat : Int) = 47)) || ((decide (((b.getD c.toNat 0).toNat : Int) = 61)) || (decide (((b.getD c.toNat 0).toNat : Int) = 60))))))] rfl, rfl⟩
                 ·rintro cl w_ ⟨bL, hw_⟩
                  have hw_ : d = w_ := hw_.symm
                  subst hw_
                  have bM := bL.say (t := 27) rfl (.bool ((decide (((b.getD c.toNat 0).toNat : Int) = 39)) || ((decide (((b.getD c.toNat 0).toNat : Int) = 62)) || ((decide (((b.getD c.toNat 0).toNat : Int) = 47)) || ((decide (((b.getD c.toNat 0).toNat : Int) = 61)) || (decide (((b.getD c.toNat 0).toNat : Int) = 60))))))) (by rw [hc]; rfl)
                  exact then_normal ⟨bM.kp [(0, .string (Bs b)), (4, .int .u8 ((b.getD c.toNat 0).toNat : Int)), (13, .int .i64 (b.length : Int)), (14, .int .i64 c), (27, .bool ((decide (((b.getD c.toNat 0).toNat : Int) = 39)) || ((decide (((b.getD c.toNat 0).toNat : Int) = 62)) || ((decide (((b.getD c.toNat 0).toNat : Int) = 47)) || ((decide (((b.getD c.toNat 0).toNat : Int) = 61)) || (decide (((b.getD c.toNat 0).toNat : Int) = 60)))))))] rfl, rfl⟩
               ·rintro cm w_ ⟨bN, hw_⟩
                have hw_ : d = w_ := hw_.symm
                subst hw_
                have bO := bN.say (t := 27) rfl (.bool ((decide (((b.getD c.toNat 0).toNat : Int) = 34)) || ((decide (((b.getD c.toNat 0).toNat : Int) = 39)) || ((decide (((b.getD c.toNat 0).toNat : Int) = 62)) || ((decide (((b.getD c.toNat 0).toNat : Int) = 47)) || ((decide (((b.getD c.toNat 0).toNat : Int) = 61)) || (decide (((b.getD c.toNat 0).toNat : Int) = 60)))))))) (by rw [hc]; rfl)
                exact then_normal ⟨bO.kp [(0, .string (Bs b)), (4, .int .u8 ((b.getD c.toNat 0).toNat : Int)), (13, .int .i64 (b.length : Int)), (14, .int .i64 c), (27, .bool ((decide (((b.getD c.toNat 0).toNat : Int) = 34)) || ((decide (((b.getD c.toNat 0).toNat : Int) = 39)) || ((decide (((b.getD c.toNat 0).toNat : Int) = 62)) || ((decide (((b.getD c.toNat 0).toNat : Int) = 47)) || ((decide (((b.getD c.toNat 0).toNat : Int) = 61)) || (decide (((b.getD c.toNat 0).toNat : Int) = 60))))))))] rfl, rfl⟩
             ·rintro cn w_ ⟨bP, hw_⟩
              have hw_ : d = w_ := hw_.symm
              subst hw_
              have bQ := bP.say (t := 27) rfl (.bool ((decide (((b.getD c.toNat 0).toNat : Int) = 0)) || ((decide (((b.getD c.toNat 0).toNat : Int) = 34)) || ((decide (((b.getD c.toNat 0).toNat : Int) = 39)) || ((decide (((b.getD c.toNat 0).toNat : Int) = 62)) || ((decide (((b.getD c.toNat 0).toNat : Int) = 47)) || ((decide (((b.getD c.toNat 0).toNat : Int) = 61)) || (decide (((b.getD c.toNat 0).toNat : Int) = 60))))))))) (by rw [hc]; rfl)
              exact then_normal ⟨bQ.kp [(0, .string (Bs b)), (4, .int .u8 ((b.getD c.toNat 0).toNat : Int)), (13, .int .i64 (b.length : Int)), (14, .int .i64 c), (27, .bool ((decide (((b.getD c.toNat 0).toNat : Int) = 0)) || ((decide (((b.getD c.toNat 0).toNat : Int) = 34)) || ((decide (((b.getD c.toNat 0).toNat : Int) = 39)) || ((decide (((b.getD c.toNat 0).toNat : Int) = 62)) || ((decide (((b.getD c.toNat 0).toNat : Int) = 47)) || ((decide (((b.getD c.toNat 0).toNat : Int) = 61)) || (decide (((b.getD c.toNat 0).toNat : Int) = 60)))))))))] rfl, rfl⟩
           ·rintro co w_ ⟨bR, hw_⟩
            have hw_ : d = w_ := hw_.symm
            subst hw_
            have bS := bR.say (t := 27) rfl (.bool ((decide (((b.getD c.toNat 0).toNat : Int) = 32)) || ((decide (((b.getD c.toNat 0).toNat : Int) = 0)) || ((decide (((b.getD c.toNat 0).toNat : Int) = 34)) || ((decide (((b.getD c.toNat 0).toNat : Int) = 39)) || ((decide (((b.getD c.toNat 0).toNat : Int) = 62)) || ((decide (((b.getD c.toNat 0).toNat : Int) = 47)) || ((decide (((b.getD c.toNat 0).toNat : Int) = 61)) || (decide (((b.getD c.toNat 0).toNat : Int) = 60)))))))))) (by rw [hc]; rfl)
            exact then_normal ⟨bS.kp [(0, .string (Bs b)), (4, .int .u8 ((b.getD c.toNat 0).toNat : Int)), (13, .int .i64 (b.length : Int)), (14, .int .i64 c), (27, .bool ((decide (((b.getD c.toNat 0).toNat : Int) = 32)) || ((decide (((b.getD c.toNat 0).toNat : Int) = 0)) || ((decide (((b.getD c.toNat 0).toNat : Int) = 34)) || ((decide (((b.getD c.toNat 0).toNat : Int) = 39)) || ((decide (((b.getD c.toNat 0).toNat : Int) = 62)) || ((decide (((b.getD c.toNat 0).toNat : Int) = 47)) || ((decide (((b.getD c.toNat 0).toNat : Int) = 61)) || (decide (((b.getD c.toNat 0).toNat : Int) = 60))))))))))] rfl, rfl⟩
         ·rintro cp w_ ⟨bT, hw_⟩
          have hw_ : d = w_ := hw_.symm
          subst hw_
          have bU := bT.say (t := 27) rfl (.bool ((decide (((b.getD c.toNat 0).toNat : Int) = 12)) || ((decide (((b.getD c.toNat 0).toNat : Int) = 32)) || ((decide (((b.getD c.toNat 0).toNat : Int) = 0)) || ((decide (((b.getD c.toNat 0).toNat : Int) = 34)) || ((decide (((b.getD c.toNat 0).toNat : Int) = 39)) || ((decide (((b.getD c.toNat 0).toNat : Int) = 62)) || ((decide (((b.getD c.toNat 0).toNat : Int) = 47)) || ((decide (((b.getD c.toNat 0).toNat : Int) = 61)) || (decide (((b.getD c.toNat 0).toNat : Int) = 60))))))))))) (by rw [hc]; rfl)
          exact then_normal ⟨bU.kp [(0, .string (Bs b)), (4, .int .u8 ((b.getD c.toNat 0).toNat : Int)), (13, .int .i64 (b.length : Int)), (14, .int .i64 c), (27, .bool ((decide (((b.getD c.toNat 0).toNat : Int) = 12)) || ((decide (((b.getD c.toNat 0).toNat : Int) = 32)) || ((decide (((b.getD c.toNat 0).toNat : Int) = 0)) || ((decide (((b.getD c.toNat 0).toNat : Int) = 34)) || ((decide (((b.getD c.toNat 0).toNat : Int) = 39)) || ((decide (((b.getD c.toNat 0).toNat : Int) = 62)) || ((decide (((b.getD c.toNat 0).toNat : Int) = 47)) || ((decide (((b.getD c.toNat 0).toNat : Int) = 61)) || (decide (((b.getD c.toNat 0).toNat : Int) = 60)))))))))))] rfl, rfl⟩
       ·rintro cq w_ ⟨bV, hw_⟩
        have hw_ : d = w_ := hw_.symm
        subst hw_
        have bX := bV.say (t := 27) rfl (.bool ((decide (((b.getD c.toNat 0).toNat : Int) = 10)) || ((decide (((b.getD c.toNat 0).toNat : Int) = 12)) || ((decide (((b.getD c.toNat 0).toNat : Int) = 32)) || ((decide (((b.getD c.toNat 0).toNat : Int) = 0)) || ((decide (((b.getD c.toNat 0).toNat : Int) = 34)) || ((decide (((b.getD c.toNat 0).toNat : Int) = 39)) || ((decide (((b.getD c.toNat 0).toNat : Int) = 62)) || ((decide (((b.getD c.toNat 0).toNat : Int) = 47)) || ((decide (((b.getD c.toNat 0).toNat : Int) = 61)) || (decide (((b.getD c.toNat 0).toNat : Int) = 60)))))))))))) (by rw [hc]; rfl)
        exact then_normal ⟨bX.kp [(0, .string (Bs b)), (4, .int .u8 ((b.getD c.toNat 0).toNat : Int)), (13, .int .i64 (b.length : Int)), (14, .int .i64 c), (27, .bool ((decide (((b.getD c.toNat 0).toNat : Int) = 10)) || ((decide (((b.getD c.toNat 0).toNat : Int) = 12)) || ((decide (((b.getD c.toNat 0).toNat : Int) = 32)) || ((decide (((b.getD c.toNat 0).toNat : Int) = 0)) || ((decide (((b.getD c.toNat 0).toNat : Int) = 34)) || ((decide (((b.getD c.toNat 0).toNat : Int) = 39)) || ((decide (((b.getD c.toNat 0).toNat : Int) = 62)) || ((decide (((b.getD c.toNat 0).toNat : Int) = 47)) || ((decide (((b.getD c.toNat 0).toNat : Int) = 61)) || (decide (((b.getD c.toNat 0).toNat : Int) = 60))))))))))))] rfl, rfl⟩
     ·rintro cr w_ ⟨bY, hw_⟩
      have hw_ : d = w_ := hw_.symm
      subst hw_
      have bZ := bY.say (t := 27) rfl (.bool ((decide (((b.getD c.toNat 0).toNat : Int) = 9)) || ((decide (((b.getD c.toNat 0).toNat : Int) = 10)) || ((decide (((b.getD c.toNat 0).toNat : Int) = 12)) || ((decide (((b.getD c.toNat 0).toNat : Int) = 32)) || ((decide (((b.getD c.toNat 0).toNat : Int) = 0)) || ((decide (((b.getD c.toNat 0).toNat : Int) = 34)) || ((decide (((b.getD c.toNat 0).toNat : Int) = 39)) || ((decide (((b.getD c.toNat 0).toNat : Int) = 62)) || ((decide (((b.getD c.toNat 0).toNat : Int) = 47)) || ((decide (((b.getD c.toNat 0).toNat : Int) = 61)) || (decide (((b.getD c.toNat 0).toNat : Int) = 60))))))))))))) (by rw [hc]; rfl)
      exact then_normal ⟨bZ.kp [(0, .string (Bs b)), (4, .int .u8 ((b.getD c.toNat 0).toNat : Int)), (13, .int .i64 (b.length : Int)), (14, .int .i64 c), (27, .bool ((decide (((b.getD c.toNat 0).toNat : Int) = 9)) || ((decide (((b.getD c.toNat 0).toNat : Int) = 10)) || ((decide (((b.getD c.toNat 0).toNat : Int) = 12)) || ((decide (((b.getD c.toNat 0).toNat : Int) = 32)) || ((decide (((b.getD c.toNat 0).toNat : Int) = 0)) || ((decide (((b.getD c.toNat 0).toNat : Int) = 34)) || ((decide (((b.getD c.toNat 0).toNat : Int) = 39)) || ((decide (((b.getD c.toNat 0).toNat : Int) = 62)) || ((decide (((b.getD c.toNat 0).toNat : Int) = 47)) || ((decide (((b.getD c.toNat 0).toNat : Int) = 61)) || (decide (((b.getD c.toNat 0).toNat : Int) = 60)))))))))))))] rfl, rfl⟩
   ·rintro cs w_ ⟨y, hw_⟩
    have hw_ : d = w_ := hw_.symm
    subst hw_
    refine then_normal ?_
    refine wp_cond_split (y.get rfl) (fun hc => ?_) (fun hc => ?_)
    ·have b0 := av.1 ((b_or_t hc).imp (fun h => (of_decide_eq_true h)) (fun h => ((b_or_t h).imp (fun h => (of_decide_eq_true h)) (fun h => ((b_or_t h).imp (fun h => (of_decide_eq_true h)) (fun h => ((b_or_t h).imp (fun h => (of_decide_eq_true h)) (fun h => ((b_or_t h).imp (fun h => (of_decide_eq_true h)) (fun h => ((b_or_t h).imp (fun h => (of_decide_eq_true h)) (fun h => ((b_or_t h).imp (fun h => (of_decide_eq_true h)) (fun h => ((b_or_t h).imp (fun h => (of_decide_eq_true h)) (fun h => ((b_or_t h).imp (fun h => (of_decide_eq_true h)) (fun h => ((b_or_t h).imp (fun h => (of_decide_eq_true h)) (fun h => (of_decide_eq_true h)))))))))))))))))))))
     clear hc
     refine wp_seq (wp_region_lit ?_)
     refine sqv y rfl (r_assign rfl) fun _ b1 => sq_end ?_
     have aM := b1.kp [(2, .bool false)] rfl
     refine then_normal ?_
     refine wp_ret ?_
     refine block_ret ?_
     refine block_ret ?_
     refine then_ret ?_
     refine then_ret ?_
     refine block_ret ?_
     refine then_ret ?_
     exact res_all (vs := [.bool false]) rfl aM ⟨res_of_tmp aM rfl, trivial⟩ b0
    ·have aN := av.2 ⟨(of_decide_eq_false (b_or_f hc).1), ⟨(of_decide_eq_false (b_or_f (b_or_f hc).2).1), ⟨(of_decide_eq_false (b_or_f (b_or_f (b_or_f hc).2).2).1), ⟨(of_decide_eq_false (b_or_f (b_or_f (b_or_f (b_or_f hc).2).2).2).1), ⟨(of_decide_eq_false (b_or_f (b_or_f (b_or_f (b_or_f (b_or_f hc).2).2).2).2).1), ⟨(of_decide_eq_false (b_or_f (b_or_f (b_or_f (b_or_f (b_or_f (b_or_f hc).2).2).2).2).2).1), ⟨(of_decide_eq_false (b_or_f (b_or_f (b_or_f (b_or_f (b_or_f (b_or_f (b_or_f hc).2).2).2).2).2).2).1), ⟨(of_decide_eq_false (b_or_f (b_or_f (b_or_f (b_or_f (b_or_f (b_or_f (b_or_f (b_or_f hc).2).2).2).2).2).2).2).1), ⟨(of_decide_eq_false (b_or_f (b_or_f (b_or_f (b_or_f (b_or_f (b_or_f (b_or_f (b_or_f (b_or_f hc).2).2).2).2).2).2).2).2).1), ⟨(of_decide_eq_false (b_or_f (b_or_f (b_or_f (b_or_f (b_or_f (b_or_f (b_or_f (b_or_f (b_or_f (b_or_f hc).2).2).2).2).2).2).2).2).2).1), (of_decide_eq_false (b_or_f (b_or_f (b_or_f (b_or_f (b_or_f (b_or_f (b_or_f (b_or_f (b_or_f (b_or_f hc).2).2).2).2).2).2).2).2).2).2)⟩⟩⟩⟩⟩⟩⟩⟩⟩⟩
     clear hc
     refine wp_seq (wp_region_lit ?_)
     refine sqv y rfl (r_move (y.get rfl)) fun _ aO => sqv aO rfl (r_geq (aO.get rfl) rfl) fun _ aP => sqv aP rfl (r_move (aP.get rfl)) fun _ aQ => ?_
     refine sq (opk_gval aQ rfl rfl (g := true) (e := (decide (65 ≤ ((b.getD c.toNat 0).toNat : Int)))) rfl (fun hg => r_move (aQ.get rfl)) fun ct aR _ => ?_)
     refine sq (opk_gval aR rfl rfl (g := true) (e := (decide (65 ≤ ((b.getD c.toNat 0).toNat : Int)))) rfl (fun hg => r_leq (cv_get (aR.get rfl) hg) rfl) fun cu ag _ => ?_)
     refine sqv ag rfl (r_pick_and (g := (true && ((decide (65 ≤ ((b.getD c.toNat 0).toNat : Int))) == true))) (ag.get rfl) (ag.get rfl) (fun he => g_mkt rfl he)) fun _ b2 => sq_end ?_
     have z := b2.kp [(0, .string (Bs b)), (13, .int .i64 (b.length : Int)), (14, .int .i64 c), (26, .bool ((decide (65 ≤ ((b.getD c.toNat 0).toNat : Int))) && (decide (((b.getD c.toNat 0).toNat : Int) ≤ 90))))] rfl
     refine then_normal ?_
     refine wp_cond_split (z.get rfl) (fun hc => ?_) (fun hc => ?_)
     ·have b3 := aN.1 ⟨(of_decide_eq_true (b_and_t hc).1), (of_decide_eq_true (b_and_t hc).2)⟩
      clear hc
      refine wp_seq (wp_region_lit ?_)
      refine sqv z rfl (r_assign rfl) fun _ b4 => sq_end ?_
      have aS := b4.kp [(2, .bool false)] rfl
      refine then_normal ?_
      refine wp_ret ?_
      refine block_ret ?_
      refine block_ret ?_
      refine then_ret ?_
      refine then_ret ?_
      refine block_ret ?_
      refine then_ret ?_
      exact res_all (vs := [.bool false]) rfl aS ⟨res_of_tmp aS rfl, trivial⟩ b3
     ·have b5 := aN.2 ((b_and_f hc).imp (fun h => (of_decide_eq_false h)) (fun h => (of_decide_eq_false h)))
      clear hc
      refine wp_skip ?_
      refine block_normal ?_
      refine block_normal ?_
      refine then_normal (wp_region_lit ?_)
      obtain ⟨b6, aT⟩ := b5
      refine sqv z rfl (r_addI (z.get rfl) rfl b6) fun _ aU => sqv aU rfl (r_move (aU.get rfl)) fun _ b7 => sq_end ?_
      have b8 := b7.kp [(0, .string (Bs b)), (13, .int .i64 (b.length : Int)), (14, .int .i64 (c + 1))] rfl
      have b9 := b8.kp [(0, .string (Bs b)), (13, .int .i64 (b.length : Int)), (14, .int .i64 (c + 1))] rfl
      exact then_normal ⟨(c + 1, d), ⟨b9, rfl, aT.1⟩, aT.2⟩
  ·have ca := ap.2 (of_decide_eq_false hc)
   clear hc
   refine wp_exit ?_
   refine then_exit ?_
   refine then_exit ?_
   refine block_hit ?_
   have cb := k.kp [] rfl
   refine then_normal (wp_seq (wp_region_lit ?_))
   refine sqv cb rfl (r_assign rfl) fun _ cc => sq_end ?_
   have aV := cc.kp [(2, .bool true)] rfl
   refine then_normal ?_
   refine wp_ret ?_
   exact res_all (vs := [.bool true]) rfl aV ⟨res_of_tmp aV rfl, trivial⟩ ca
def tree_attrs.vc (d : Sl) (R : Value → World → Prop) (w : World) : Prop :=
((12 < (d.n : Int)) →
R (.bool false) w) ∧
((¬ (12 < (d.n : Int))) →
∃ (p : Str → Int → World → Prop) (r : Str → Int → World → Nat),
p ([] : Str) 0 w ∧
(∀ (c : Str) (f : Int) (i : World), p c f i →
((f < (d.n : Int)) →
((0 : Int) ≤ f ∧ f < (d.n : Int)) ∧ ∃ u : Addr, d.a = some u ∧
∃ (b : Str) (m : Str), (Cells i (u.add (f.toNat * 2)) [.string (Bs b), .string (Bs m)]) ∧
∀ (k : World) (o : Nat), New i o k → Chg [] i k →
∃ (j : Bool), (((((Op.bytesLess b c) = false) ∧ (¬ (b = c)))) → Calls Try.prog 92 #[.string (Bs b)] k (Ret fun v w' => Ext k w' ∧ v = .bool j)) ∧
(∀ l : World, Ext k l →
((((((Op.bytesLess b c) = true) ∨ (b = c)) ∨ (j = false)) ∨ (4096 < (m.length : Int))) →
R (.bool false) l) ∧
((((((Op.bytesLess b c) = false) ∧ (¬ (b = c))) ∧ (j = true)) ∧ (¬ (4096 < (m.length : Int)))) →
(I64 (f + 1)) ∧
p b (f + 1) l ∧ r b (f + 1) l < r c f i))) ∧
((¬ (f < (d.n : Int))) →
R (.bool true) i)))
theorem tree_attrs.ok (d : Sl) {R : Value → World → Prop} {w : World} (x : tree_attrs.vc d R w) : Calls Try.prog 93 #[Sl.v d] w (Ret R) := by
 refine enter [Sl.v d] Try.func93 rfl Try.ntmps93 rfl ?_
 intro a0 aU
 unfold tree_attrs.vc at x
 refine wp_seq (wp_region_lit ?_)
 refine sqv aU rfl (r_assign rfl) fun _ aV => sq_end ?_
 have ai := aV.kp [(0, Sl.v d)] rfl
 refine then_normal (wp_seq (wp_seq (wp_region_lit ?_)))
 refine sqv ai rfl (r_move (ai.get rfl)) fun _ aj => sqv aj rfl (r_len (aj.get rfl) tU23) fun _ ak => sqv ak rfl (r_gtr (ak.get rfl) rfl) fun _ aX => sq_end ?_
 have y := aX.kp [(0, Sl.v d), (8, .bool (decide (12 < (d.n : Int))))] rfl
 refine then_normal ?_
 refine wp_cond_split (y.get rfl) (fun hc => ?_) (fun hc => ?_)
 ·have aY := x.1 (of_decide_eq_true hc)
  clear hc
  refine wp_seq (wp_region_lit ?_)
  refine sqv y rfl (r_assign rfl) fun _ aZ => sq_end ?_
  have al := aZ.kp [(2, .bool false)] rfl
  refine then_normal ?_
  refine wp_ret ?_
  refine then_ret ?_
  exact res_all (vs := [.bool false]) rfl al ⟨res_of_tmp al rfl, trivial⟩ aY
 ·have ht9 := x.2 (of_decide_eq_false hc)
  clear hc
  refine wp_skip ?_
  refine then_normal (wp_seq (wp_region_lit ?_))
  refine sqv y rfl (r_assign rfl) fun _ a1 => sq_end ?_
  have am := a1.kp [(0, Sl.v d), (3, .string (Bs []))] rfl
  refine then_normal (wp_seq (wp_seq (wp_region_lit ?_)))
  refine sqv am rfl (r_move (am.get rfl)) fun _ an => sqv an rfl (r_len (an.get rfl) tU23) fun _ a2 => sqv a2 rfl (r_move rfl) fun _ a3 => sq_end ?_
  have a4 := a3.kp [(3, .string (Bs [])), (9, Sl.v d), (10, .int .i64 (d.n : Int)), (11, .int .i64 0)] rfl
  refine then_normal (wp_block ?_)
  obtain ⟨p, r, a5, a6⟩ := ht9
  refine wp_loop_st (σ := Str × Int × World) (fun s a w => Ag 34 a [(3, .string (Bs s.1)), (9, Sl.v d), (10, .int .i64 (d.n : Int)), (11, .int .i64 s.2.1)] ∧ w = s.2.2 ∧ p s.1 s.2.1 s.2.2) (fun s => r s.1 s.2.1 s.2.2) (([] : Str), 0, w) ⟨a4.kp [(3, .string (Bs [])), (9, Sl.v d), (10, .int .i64 (d.n : Int)), (11, .int .i64 0)] rfl, rfl, a5⟩ ?_
  rintro ⟨c, f, i⟩ bI w_ ⟨z, hw_, a7⟩
  have hw_ : i = w_ := hw_.symm
  subst hw_
  have ao := a6 c f _ a7
  refine wp_seq (wp_region_lit ?_)
  refine sqv z rfl (r_lss (z.get rfl) (z.get rfl)) fun _ a8 => sq_end ?_
  have q := a8.kp [(3, .string (Bs c)), (9, Sl.v d), (10, .int .i64 (d.n : Int)), (11, .int .i64 f), (12, .bool (decide (f < (d.n : Int))))] rfl
  refine then_normal (wp_seq ?_)
  refine wp_cond_split (q.get rfl) (fun hc => ?_) (fun hc => ?_)
  ·have a9 := ao.1 (of_decide_eq_true hc)
   clear hc
   refine wp_skip ?_
   refine then_normal (wp_seq (wp_block (wp_seq (wp_region_lit ?_))))
   obtain ⟨ba, u, bb, bd⟩ := a9
   refine sqv q rfl (r_indexAddr (q.get rfl) (q.get rfl) tU23 ti_47 ba bb) fun _ ap => ?_
   obtain ⟨b, m, bf, bg⟩ := bd
   refine sqv ap rfl (r_loadN Try.underlying47 rfl ti_47 (ap.get rfl) bf) fun _ bh => ?_
   refine sq (opk_new (fun B => .pointer (some ⟨B, 0, none⟩)) bh rfl (r_alloc (cs := [.string (Bs []), .string (Bs [])]) ti_47 rfl) fun bJ aq o bi bj ar aa _ => ?_)
   have au : New i o aq := bj
   have bk : Chg [] i aq := bi
   refine sq (opk_store aa ar (r_store (vs := [.string (Bs b), .string (Bs m)]) (aa.get rfl) (aa.get rfl) rfl ti_47 ar rfl (ones_all _ rfl)) fun bK k av bl bm => ?_)
   have ab : Box k o 47 [.string (Bs b), .string (Bs m)] := bl
   have bn := bk.storeNew au av
   have bo := au.up av.size
   refine sq_end ?_
   have ax := bm.kp [(3, .string (Bs c)), (5, pB o 0), (9, Sl.v d), (10, .int .i64 (d.n : Int)), (11, .int .i64 f)] rfl
   refine then_normal (wp_seq (wp_seq (wp_region_lit ?_)))
   refine sqv ax rfl (r_fieldAddr (ax.get rfl) Try.underlying47 rfl ti_9 (by decide)) fun _ ay => sqv ay rfl (r_load1 tU9 rfl (ay.get rfl) (ab.cell 0 _ rfl)) fun _ az => sqv az rfl (r_move (az.get rfl)) fun _ ad => sqv ad rfl (r_sleq (ad.get rfl) (ad.get rfl)) fun _ aA => sqv aA rfl (r_move (aA.get rfl)) fun _ aB => ?_
   refine sq (opk_gval aB rfl rfl (g := true) (e := ((Op.bytesLess b c) || (decide (b = c)))) rfl (fun hg => r_fieldAddr (aB.get rfl) Try.underlying47 rfl ti_9 (by decide)) fun bL aC _ => ?_)
   refine sq (opk_gval aC rfl rfl (g := true) (e := ((Op.bytesLess b c) || (decide (b = c)))) rfl (fun hg => r_load1 tU9 rfl (cv_get (aC.get rfl) hg) (ab.cell 0 _ rfl)) fun bM aD _ => ?_)
   have bp := bg k o bo  bn
   obtain ⟨j, bq, br⟩ := bp
   refine sq (opk_gcall aD rfl rfl (g := true) (e := ((Op.bytesLess b c) || (decide (b = c)))) rfl (fun hg => r_call (args := #[.string (Bs b)]) Try.func92 (by decide) rfl (map_arr (ml_cons (cv_get (aD.get rfl) hg) ml_nil)) rfl) (fun hg => bq ⟨(b_or_f (g_f hg)).1, (of_decide_eq_false (b_or_f (g_f hg)).2)⟩) fun bN l aF _ af => ?_)
   have aG := ab.ext af
   have bO : Chg [] k l := af
   have aH := br l af
   refine sq (opk_gval aF rfl rfl (g := true) (e := ((Op.bytesLess b c) || (decide (b = c)))) rfl (fun hg => r_not (cv_get (aF.get rfl) hg)) fun bP ag _ => ?_)
   refine sqv ag rfl (r_pick_or (g := (true && (((Op.bytesLess b c) || (decide (b = c))) == false))) (ag.get rfl) (ag.get rfl) (fun he => g_mkf rfl he)) fun _ aI => sqv aI rfl (r_move (aI.get rfl)) fun _ aJ => ?_
   refine sq (opk_gval aJ rfl rfl (g := true) (e := (((Op.bytesLess b c) || (decide (b = c))) || (!j))) rfl (fun hg => r_fieldAddr (aJ.get rfl) Try.underlying47 rfl ti_9 (by decide)) fun bQ aK _ => ?_)
   refine sq (opk_gval aK rfl rfl (g := true) (e := (((Op.bytesLess b c) || (decide (b = c))) || (!j))) rfl (fun hg => r_load1 tU9 rfl (cv_get (aK.get rfl) hg) (aG.cell 1 _ rfl)) fun bR aL _ => ?_)
   refine sq (opk_gval aL rfl rfl (g := true) (e := (((Op.bytesLess b c) || (decide (b = c))) || (!j))) rfl (fun hg => r_slen (cv_get (aL.get rfl) hg) tU9) fun bS aM _ => ?_)
   refine sq (opk_gval aM rfl rfl (g := true) (e := (((Op.bytesLess b c) || (decide (b = c))) || (!j))) rfl (fun hg => r_gtr (cv_get (aM.get rfl) hg) rfl) fun bT ah _ => ?_)
   refine sqv ah rfl (r_pick_or (g := (true && ((((Op.bytesLess b c) || (decide (b = c))) || (!j)) == false))) (ah.get rfl) (ah.get rfl) (fun he => g_mkf rfl he)) fun _ bs => sq_end ?_
   have t := bs.kp [(5, pB o 0), (9, Sl.v d), (10, .int .i64 (d.n : Int)), (11, .int .i64 f), (30, .bool ((((Op.bytesLess b c) || (decide (b = c))) || (!j)) || (decide (4096 < (m.length : Int)))))] rfl
   refine then_normal ?_
   refine wp_cond_split (t.get rfl) (fun hc => ?_) (fun hc => ?_)
   ·have bt := aH.1 ((b_or_t hc).imp (fun h => ((b_or_t h).imp (fun h => ((b_or_t h).imp (fun h => h) (fun h => (of_decide_eq_true h)))) (fun h => (b_not_t h)))) (fun h => (of_decide_eq_true h)))
    clear hc
    refine wp_seq (wp_region_lit ?_)
    refine sqv t rfl (r_assign rfl) fun _ bu => sq_end ?_
    have aN := bu.kp [(2, .bool false)] rfl
    refine then_normal ?_
    refine wp_ret ?_
    refine then_ret ?_
    refine block_ret ?_
    refine then_ret ?_
    refine then_ret ?_
    refine block_ret ?_
    refine then_ret ?_
    exact res_all (vs := [.bool false]) rfl aN ⟨res_of_tmp aN rfl, trivial⟩ bt
   ·have bv := aH.2 ⟨⟨⟨(b_or_f (b_or_f (b_or_f hc).1).1).1, (of_decide_eq_false (b_or_f (b_or_f (b_or_f hc).1).1).2)⟩, (b_not_f (b_or_f (b_or_f hc).1).2)⟩, (of_decide_eq_false (b_or_f hc).2)⟩
    clear hc
    refine wp_skip ?_
    refine then_normal (wp_region_lit ?_)
    refine sqv t rfl (r_fieldAddr (t.get rfl) Try.underlying47 rfl ti_9 (by decide)) fun _ aO => sqv aO rfl (r_load1 tU9 rfl (aO.get rfl) (aG.cell 0 _ rfl)) fun _ aP => sqv aP rfl (r_assign (aP.get rfl)) fun _ bx => sq_end ?_
    have aQ := bx.kp [(3, .string (Bs b)), (9, Sl.v d), (10, .int .i64 (d.n : Int)), (11, .int .i64 f)] rfl
    refine block_normal ?_
    refine then_normal (wp_region_lit ?_)
    obtain ⟨bz, aR⟩ := bv
    refine sqv aQ rfl (r_addI (aQ.get rfl) rfl bz) fun _ aS => sqv aS rfl (r_move (aS.get rfl)) fun _ bA => sq_end ?_
    have bB := bA.kp [(3, .string (Bs b)), (9, Sl.v d), (10, .int .i64 (d.n : Int)), (11, .int .i64 (f + 1))] rfl
    have bC := bB.kp [(3, .string (Bs b)), (9, Sl.v d), (10, .int .i64 (d.n : Int)), (11, .int .i64 (f + 1))] rfl
    exact then_normal ⟨(b, f + 1, l), ⟨bC, rfl, aR.1⟩, aR.2⟩
  ·have bD := ao.2 (of_decide_eq_false hc)
   clear hc
   refine wp_exit ?_
   refine then_exit ?_
   refine then_exit ?_
   refine block_hit ?_
   have bF := q.kp [] rfl
   refine then_normal (wp_seq (wp_region_lit ?_))
   refine sqv bF rfl (r_assign rfl) fun _ bG => sq_end ?_
   have aT := bG.kp [(2, .bool true)] rfl
   refine then_normal ?_
   refine wp_ret ?_
   exact res_all (vs := [.bool true]) rfl aT ⟨res_of_tmp aT rfl, trivial⟩ bD
end Go.Proofs.Yteohbfaechfliaa
