/-
  PRINTED BY PROGRAM: for each function its condition (vc), and that this suffices (ok).
-/
import Derived.Test.YtghmgfkdnolcdaaQApplyNoneGT
namespace Go.Proofs.Ytghmgfkdnolcdaa
open Go.RowKit
set_option linter.unusedVariables false
set_option maxHeartbeats 1000000
set_option maxRecDepth 10000
def tree_Depth.vc (r : Int) (t : Str) (u : Str) (x : Sl) (b : Sl) (R : Value → World → Prop) (w : World) : Prop :=
∀ (g : World) (p : Nat), New w p g → Chg [] w g →
∃ (y : Int → Int → World → Prop) (aa : Int → Int → World → Nat),
y 0 0 g ∧
(∀ (d : Int) (c : Int) (f : World), y d c f →
((c < (b.n : Int)) →
((0 : Int) ≤ c ∧ c < (b.n : Int)) ∧ ∃ ad : Addr, b.a = some ad ∧
∃ (h : Int) (i : Str) (j : Str) (k : Sl) (l : Sl), (Cells f (ad.add (c.toNat * 5)) [.int .i64 h, .string (Bs i), .string (Bs j), Sl.v k, Sl.v l]) ∧
∀ (q : World) (o : Nat), New f o q → Chg [] f q →
CallK Try.prog 17 #[.agg #[.int .i64 h, .string (Bs i), .string (Bs j), Sl.v k, Sl.v l]] q [o] (fun v ab => ∃ (m : Int), v = .int .i64 m ∧
(I64 (c + 1)) ∧
y (max d m) (c + 1) ab ∧ aa (max d m) (c + 1) ab < aa d c f)) ∧
((¬ (c < (b.n : Int))) →
(I64 (d + 1)) ∧
R (.int .i64 (d + 1)) f))
theorem tree_Depth.ok (r : Int) (t : Str) (u : Str) (x : Sl) (b : Sl) {R : Value → World → Prop} {w : World} (ai : tree_Depth.vc r t u x b R w) : Calls Try.prog 17 #[.agg #[.int .i64 r, .string (Bs t), .string (Bs u), Sl.v x, Sl.v b]] w (Ret R) := by
 refine enter [.agg #[.int .i64 r, .string (Bs t), .string (Bs u), Sl.v x, Sl.v b]] Try.func17 rfl Try.ntmps17 rfl ?_
 intro a0 aj
 unfold tree_Depth.vc at ai
 refine wp_seq (wp_region_lit ?_)
 refine sq (opk_new (fun B => .pointer (some ⟨B, 0, none⟩)) aj rfl (r_box (cs := [.int .i64 r, .string (Bs t), .string (Bs u), Sl.v x, Sl.v b]) (aj.get rfl) rfl) fun a4 g p aJ aK aL aM _ => ?_)
 have aN : New w p g := aK
 have aO : Chg [] w g := aJ
 refine sqv aM rfl (r_assign rfl) fun _ aP => ?_
 refine sq_end ?_
 have aQ := aP.keep [(1, .pointer (some (⟨p, 0, none⟩ : Addr)))] ⟨rfl, trivial⟩
 refine then_normal (wp_seq (wp_region_lit ?_))
 refine sqv aQ rfl (r_assign rfl) fun _ aR => ?_
 refine sq_end ?_
 have ak := aR.keep [(1, .pointer (some (⟨p, 0, none⟩ : Addr))), (3, .int .i64 0)] ⟨rfl, rfl, trivial⟩
 refine then_normal (wp_seq (wp_seq (wp_region_lit ?_)))
 refine sqv ak rfl (r_fieldAddr (ak.get rfl) Try.underlying29 rfl ti_27 (by decide)) fun _ al => ?_
 refine sqv al rfl (r_load1 Try.underlying27 rfl (al.get rfl) (aL.cell 4 _ rfl)) fun _ am => ?_
 refine sqv am rfl (r_len (am.get rfl) Try.underlying27) fun _ aS => ?_
 refine sqv aS rfl (r_move rfl) fun _ aT => ?_
 refine sq_end ?_
 have aU := aT.keep [(3, .int .i64 0), (7, Sl.v b), (8, .int .i64 (b.n : Int)), (9, .int .i64 0)] ⟨rfl, rfl, rfl, rfl, trivial⟩
 refine then_normal (wp_block ?_)
 have aV := ai g p aN  aO
 obtain ⟨y, aa, aX, aY⟩ := aV
 refine wp_loop_st (σ := Int × Int × World) (fun s a w => Ag 20 a [(3, .int .i64 s.1), (7, Sl.v b), (8, .int .i64 (b.n : Int)), (9, .int .i64 s.2.1)] ∧ w = s.2.2 ∧ y s.1 s.2.1 s.2.2) (fun s => aa s.1 s.2.1 s.2.2) (0, 0, g) ⟨aU.keep [(3, .int .i64 0), (7, Sl.v b), (8, .int .i64 (b.n : Int)), (9, .int .i64 0)] ⟨rfl, rfl, rfl, rfl, trivial⟩, rfl, aX⟩ ?_
 rintro ⟨d, c, f⟩ bx w_ ⟨af, hw_, aZ⟩
 have hw_ : f = w_ := hw_.symm
 subst hw_
 have an := aY d c _ aZ
 refine wp_seq (wp_region_lit ?_)
 refine sqv af rfl (r_lss (af.get rfl) (af.get rfl)) fun _ hA80 => ?_
 refine sq_end ?_
 have z := hA80.keep [(3, .int .i64 d), (7, Sl.v b), (8, .int .i64 (b.n : Int)), (9, .int .i64 c), (10, .bool (decide (c < (b.n : Int))))] ⟨rfl, rfl, rfl, rfl, rfl, trivial⟩
 refine then_normal (wp_seq ?_)
 refine wp_cond_split (z.get rfl) (fun hc => ?_) (fun hc => ?_)
 ·have a1 := an.1 (of_decide_eq_true hc)
  clear hc
  refine wp_skip ?_
  refine then_normal (wp_seq (wp_block (wp_seq (wp_region_lit ?_))))
  obtain ⟨a2, ad, a3, ht87⟩ := a1
  refine sqv z rfl (r_indexAddr (z.get rfl) (z.get rfl) Try.underlying27 ti_29 a2 a3) fun _ ao => ?_
  obtain ⟨h, i, j, k, l, a5, a6⟩ := ht87
  refine sqv ao rfl (r_loadN Try.underlying29 rfl ti_29 (ao.get rfl) a5) fun _ a7 => ?_
  refine sq (opk_new (fun B => .pointer (some ⟨B, 0, none⟩)) a7 rfl (r_alloc (cs := [.int .i64 0, .string (Bs ([] : Str)), .string (Bs ([] : Str)), Sl.v Sl.nil, Sl.v Sl.nil]) ti_29 rfl) fun bz ap o a8 a9 aq ag _ => ?_)
  have ar : New f o ap := a9
  have ba : Chg [] f ap := a8
  refine sq (opk_store ag aq (r_store (vs := [.int .i64 h, .string (Bs i), .string (Bs j), Sl.v k, Sl.v l]) (ag.get rfl) (ag.get rfl) rfl ti_29 aq rfl (ones_all [.int .i64 h, .string (Bs i), .string (Bs j), Sl.v k, Sl.v l] rfl)) fun bA q au bb bd => ?_)
  have av : Box q o 29 [.int .i64 h, .string (Bs i), .string (Bs j), Sl.v k, Sl.v l] := bb
  have bf := ba.storeNew ar au
  have bg := ar.up au.size
  refine sq_end ?_
  have ax := bd.keep [(3, .int .i64 d), (5, .pointer (some (⟨o, 0, none⟩ : Addr))), (7, Sl.v b), (8, .int .i64 (b.n : Int)), (9, .int .i64 c)] ⟨rfl, rfl, rfl, rfl, rfl, trivial⟩
  refine then_normal (wp_region_lit ?_)
  refine sqv ax rfl (r_move (ax.get rfl)) fun _ ay => ?_
  refine sqv ay rfl (r_loadN (cs := [.int .i64 h, .string (Bs i), .string (Bs j), Sl.v k, Sl.v l]) Try.underlying29 rfl ti_29 (ay.get rfl) (av.part 0 _ rfl)) fun _ az => ?_
  have bh := a6 q o bg  bf
  refine sq (opk_call az rfl (r_call (args := #[.agg #[.int .i64 h, .string (Bs i), .string (Bs j), Sl.v k, Sl.v l]]) Try.func17 (by decide) rfl (map_arr (ml_cons (az.get rfl) ml_nil)) rfl) bh fun bB bC ab ah _ bi bD bj => ?_)
  obtain ⟨m, rfl, bk⟩ := bj
  have bF := av.kept bi (.head _)
  refine sqv ah rfl (r_max (ah.get rfl) (ah.get rfl)) fun _ aA => ?_
  refine sqv aA rfl (r_assign (aA.get rfl)) fun _ bl => ?_
  refine sq_end ?_
  have aB := bl.keep [(3, .int .i64 (max d m)), (7, Sl.v b), (8, .int .i64 (b.n : Int)), (9, .int .i64 c)] ⟨rfl, rfl, rfl, rfl, trivial⟩
  refine block_normal ?_
  refine then_normal (wp_region_lit ?_)
  obtain ⟨bm, aC⟩ := bk
  refine sqv aB rfl (r_addI (aB.get rfl) rfl bm) fun _ aD => ?_
  refine sqv aD rfl (r_move (aD.get rfl)) fun _ bn => ?_
  refine sq_end ?_
  have bo := bn.keep [(3, .int .i64 (max d m)), (7, Sl.v b), (8, .int .i64 (b.n : Int)), (9, .int .i64 (c + 1))] ⟨rfl, rfl, rfl, rfl, trivial⟩
  have bp := bo.keep [(3, .int .i64 (max d m)), (7, Sl.v b), (8, .int .i64 (b.n : Int)), (9, .int .i64 (c + 1))] ⟨rfl, rfl, rfl, rfl, trivial⟩
  exact then_normal ⟨(max d m, c + 1, ab), ⟨bp, rfl, aC.1⟩, aC.2⟩
 ·have bq := an.2 (of_decide_eq_false hc)
  clear hc
  refine wp_exit ?_
  refine then_exit ?_
  refine then_exit ?_
  refine block_hit ?_
  have aF := z.keep [(3, .int .i64 d)] ⟨rfl, trivial⟩
  refine then_normal (wp_seq (wp_region_lit ?_))
  refine sqv aF rfl (r_move (aF.get rfl)) fun _ aG => ?_
  obtain ⟨br, bs⟩ := bq
  refine sqv aG rfl (r_addI (aG.get rfl) rfl br) fun _ aH => ?_
  refine sqv aH rfl (r_assign (aH.get rfl)) fun _ bt => ?_
  refine sq_end ?_
  have aI := bt.keep [(2, .int .i64 (d + 1))] ⟨rfl, trivial⟩
  refine then_normal ?_
  refine wp_ret ?_
  exact res_all (vs := [.int .i64 (d + 1)]) rfl aI ⟨res_of_tmp aI rfl, trivial⟩ bs
def tree_Check.vc (a : Int) (f : Str) (h : Str) (d : Sl) (i : Sl) (R : Value → World → Prop) (w : World) : Prop :=
∀ (k : World) (r : Nat), New w r k → Chg [] w k →
∃ (b : Int), (((a = 1)) → Calls Try.prog 32 #[.agg #[.int .i64 a, .string (Bs f), .string (Bs h), Sl.v d, Sl.v i]] k (Ret fun v w' => Ext k w' ∧ v = .int .i64 b)) ∧
(∀ m : World, Ext k m →
∃ (c : Int), ((((a = 1) ∧ (b ≤ 300))) → Calls Try.prog 17 #[.agg #[.int .i64 a, .string (Bs f), .string (Bs h), Sl.v d, Sl.v i]] m (Ret fun v w' => Ext m w' ∧ v = .int .i64 c)) ∧
(∀ o : World, Ext m o →
∀ (l : World), Chg [] o l →
∀ (p : Nat) (_ : o.heap.size ≤ p) (_ : ((((a = 1) ∧ (b ≤ 300)) ∧ (c ≤ 60))) → Box l p 9 [.string (Bs f), .string (Bs h)]),
∃ (j : Bool), (((((a = 1) ∧ (b ≤ 300)) ∧ (c ≤ 60))) → Calls Try.prog 62 #[Sl.v (Sl.mk (some ⟨p, 0, none⟩) 2 2)] l (Ret fun v w' => Ext l w' ∧ v = .bool j)) ∧
(∀ q : World, Ext l q →
∃ (s : Bool), (((((((a = 1) ∧ (b ≤ 300)) ∧ (c ≤ 60)) ∧ (j = true)) ∧ ((d.n : Int) = 0))) → Calls Try.prog 63 #[.agg #[.int .i64 a, .string (Bs f), .string (Bs h), Sl.v d, Sl.v i]] q (Ret fun v w' => Ext q w' ∧ v = .bool s)) ∧
(∀ t : World, Ext q t →
R (.bool ((((((decide (a = 1)) && (decide (b ≤ 300))) && (decide (c ≤ 60))) && j) && (decide ((d.n : Int) = 0))) && s)) t))))
theorem tree_Check.ok (a : Int) (f : Str) (h : Str) (d : Sl) (i : Sl) {R : Value → World → Prop} {w : World} (al : tree_Check.vc a f h d i R w) : Calls Try.prog 31 #[.agg #[.int .i64 a, .string (Bs f), .string (Bs h), Sl.v d, Sl.v i]] w (Ret R) := by
 refine enter [.agg #[.int .i64 a, .string (Bs f), .string (Bs h), Sl.v d, Sl.v i]] Try.func31 rfl Try.ntmps31 rfl ?_
 intro a0 am
 unfold tree_Check.vc at al
 refine wp_seq (wp_region_lit ?_)
 refine sq (opk_new (fun B => .pointer (some ⟨B, 0, none⟩)) am rfl (r_box (cs := [.int .i64 a, .string (Bs f), .string (Bs h), Sl.v d, Sl.v i]) (am.get rfl) rfl) fun a4 k r aV aX x aY _ => ?_)
 have aZ : New w r k := aX
 have hC9 : Chg [] w k := aV
 refine sqv aY rfl (r_assign rfl) fun _ a1 => ?_
 refine sq_end ?_
 have an := a1.keep [(1, .pointer (some (⟨r, 0, none⟩ : Addr)))] ⟨rfl, trivial⟩
 refine then_normal (wp_seq (wp_region_lit ?_))
 refine sqv an rfl (r_fieldAddr (an.get rfl) Try.underlying29 rfl ti_3 (by decide)) fun _ ao => ?_
 refine sqv ao rfl (r_load1 Try.underlying3 rfl (ao.get rfl) (x.cell 0 _ rfl)) fun _ ap => ?_
 refine sqv ap rfl (r_eql (ap.get rfl) rfl) fun _ aq => ?_
 refine sqv aq rfl (r_move (aq.get rfl)) fun _ ar => ?_
 refine sq (opk_gval ar rfl rfl (g := true) (e := (decide (a = 1))) rfl (fun hg => r_loadN (cs := [.int .i64 a, .string (Bs f), .string (Bs h), Sl.v d, Sl.v i]) Try.underlying29 rfl ti_29 (ar.get rfl) (x.part 0 _ rfl)) fun br au _ => ?_)
 have a2 := al k r aZ  hC9
 obtain ⟨b, a3, ht21⟩ := a2
 refine sq (opk_gcall au rfl rfl (g := true) (e := (decide (a = 1))) rfl (fun hg => r_call (args := #[.agg #[.int .i64 a, .string (Bs f), .string (Bs h), Sl.v d, Sl.v i]]) Try.func32 (by decide) rfl (map_arr (ml_cons (cv_get (au.get rfl) hg) ml_nil)) rfl) (fun hg => a3 (of_decide_eq_true (g_t hg))) fun bs m av _ y => ?_)
 have ax := x.ext y
 have bt : Chg [] k m := y
 have a5 := ht21 m y
 refine sq (opk_gval av rfl rfl (g := true) (e := (decide (a = 1))) rfl (fun hg => r_leq (cv_get (av.get rfl) hg) rfl) fun bu z _ => ?_)
 refine sqv z rfl (r_pick_and (g := (true && ((decide (a = 1)) == true))) (z.get rfl) (z.get rfl) (fun he => g_mkt rfl he)) fun _ ay => ?_
 refine sqv ay rfl (r_move (ay.get rfl)) fun _ az => ?_
 refine sq (opk_gval az rfl rfl (g := true) (e := ((decide (a = 1)) && (decide (b ≤ 300)))) rfl (fun hg => r_loadN (cs := [.int .i64 a, .string (Bs f), .string (Bs h), Sl.v d, Sl.v i]) Try.underlying29 rfl ti_29 (az.get rfl) (ax.part 0 _ rfl)) fun bv aA _ => ?_)
 obtain ⟨c, a6, a7⟩ := a5
 refine sq (opk_gcall aA rfl rfl (g := true) (e := ((decide (a = 1)) && (decide (b ≤ 300)))) rfl (fun hg => r_call (args := #[.agg #[.int .i64 a, .string (Bs f), .string (Bs h), Sl.v d, Sl.v i]]) Try.func17 (by decide) rfl (map_arr (ml_cons (cv_get (aA.get rfl) hg) ml_nil)) rfl) (fun hg => a6 ⟨(of_decide_eq_true (b_and_t (g_t hg)).1), (of_decide_eq_true (b_and_t (g_t hg)).2)⟩) fun bx o aB _ aa => ?_)
 have u := ax.ext aa
 have bz : Chg [] m o := aa
 have a8 := a7 o aa
 refine sq (opk_gval aB rfl rfl (g := true) (e := ((decide (a = 1)) && (decide (b ≤ 300)))) rfl (fun hg => r_leq (cv_get (aB.get rfl) hg) rfl) fun bA ab _ => ?_)
 refine sqv ab rfl (r_pick_and (g := (true && (((decide (a = 1)) && (decide (b ≤ 300))) == true))) (ab.get rfl) (ab.get rfl) (fun he => g_mkt rfl he)) fun _ aC => ?_
 refine sqv aC rfl (r_move (aC.get rfl)) fun _ aD => ?_
 refine sq (opk_gval aD rfl rfl (g := true) (e := (((decide (a = 1)) && (decide (b ≤ 300))) && (decide (c ≤ 60)))) rfl (fun hg => r_fieldAddr (aD.get rfl) Try.underlying29 rfl ti_9 (by decide)) fun bB aF _ => ?_)
 refine sq (opk_gval aF rfl rfl (g := true) (e := (((decide (a = 1)) && (decide (b ≤ 300))) && (decide (c ≤ 60)))) rfl (fun hg => r_load1 Try.underlying9 rfl (cv_get (aF.get rfl) hg) (u.cell 1 _ rfl)) fun bC aG _ => ?_)
 refine sq (opk_gval aG rfl rfl (g := true) (e := (((decide (a = 1)) && (decide (b ≤ 300))) && (decide (c ≤ 60)))) rfl (fun hg => r_fieldAddr (aG.get rfl) Try.underlying29 rfl ti_9 (by decide)) fun bD aH _ => ?_)
 refine sq (opk_gval aH rfl rfl (g := true) (e := (((decide (a = 1)) && (decide (b ≤ 300))) && (decide (c ≤ 60)))) rfl (fun hg => r_load1 Try.underlying9 rfl (cv_get (aH.get rfl) hg) (u.cell 2 _ rfl)) fun bF ad _ => ?_)
 refine sq (opk_gnew2 (fun B => .slice (some ⟨B, 0, none⟩) 2 2) ad rfl rfl (g := true) (e := (((decide (a = 1)) && (decide (b ≤ 300))) && (decide (c ≤ 60)))) rfl (fun hg => r_buildSlice (vs := #[(0, .string (Bs f)), (1, .string (Bs h))]) (cs := [.string (Bs f), .string (Bs h)]) (map_arr2 (ml2_cons (cv_get (ad.get rfl) hg) (ml2_cons (cv_get (ad.get rfl) hg) (ml2_nil)))) Try.underlying109 ti_9 rfl rfl (by kernel_rfl)) fun bG l p aI aJ a9 aK _ => ?_)
 have ba := fun hg => (a9 hg).2
 have bH : r ≠ p := Nat.ne_of_lt (Nat.lt_of_lt_of_le u.lt aJ)
 have bb : o.heap.size ≤ p := aJ
 have bd := u.ext aI
 have bf : Chg [] o l := aI
 have bg := a8 l    bf
 have bh := bg p bb (fun hp => ba ((g_mkt rfl (b_and_mk ⟨(b_and_mk ⟨(decide_eq_true hp.1.1), (decide_eq_true hp.1.2)⟩), (decide_eq_true hp.2)⟩))))
 obtain ⟨j, bi, bj⟩ := bh
 refine sq (opk_gcall aK rfl rfl (g := true) (e := (((decide (a = 1)) && (decide (b ≤ 300))) && (decide (c ≤ 60)))) rfl (fun hg => r_call (args := #[Sl.v (Sl.mk (some ⟨p, 0, none⟩) 2 2)]) Try.func62 (by decide) rfl (map_arr (ml_cons (cv_get (aK.get rfl) hg) ml_nil)) rfl) (fun hg => bi ⟨⟨(of_decide_eq_true (b_and_t (b_and_t (g_t hg)).1).1), (of_decide_eq_true (b_and_t (b_and_t (g_t hg)).1).2)⟩, (of_decide_eq_true (b_and_t (g_t hg)).2)⟩) fun bI q af _ ag => ?_)
 have ah := bd.ext ag
 have bJ : Chg [] l q := ag
 have bk := bj q ag
 refine sqv af rfl (r_pick_and (g := (true && ((((decide (a = 1)) && (decide (b ≤ 300))) && (decide (c ≤ 60))) == true))) (af.get rfl) (af.get rfl) (fun he => g_mkt rfl he)) fun _ aL => ?_
 refine sqv aL rfl (r_move (aL.get rfl)) fun _ aM => ?_
 refine sq (opk_gval aM rfl rfl (g := true) (e := ((((decide (a = 1)) && (decide (b ≤ 300))) && (decide (c ≤ 60))) && j)) rfl (fun hg => r_fieldAddr (aM.get rfl) Try.underlying29 rfl ti_26 (by decide)) fun bK aN _ => ?_)
 refine sq (opk_gval aN rfl rfl (g := true) (e := ((((decide (a = 1)) && (decide (b ≤ 300))) && (decide (c ≤ 60))) && j)) rfl (fun hg => r_load1 Try.underlying26 rfl (cv_get (aN.get rfl) hg) (ah.cell 3 _ rfl)) fun bL aO _ => ?_)
 refine sq (opk_gval aO rfl rfl (g := true) (e := ((((decide (a = 1)) && (decide (b ≤ 300))) && (decide (c ≤ 60))) && j)) rfl (fun hg => r_len (cv_get (aO.get rfl) hg) Try.underlying26) fun bM aP _ => ?_)
 refine sq (opk_gval aP rfl rfl (g := true) (e := ((((decide (a = 1)) && (decide (b ≤ 300))) && (decide (c ≤ 60))) && j)) rfl (fun hg => r_eql (cv_get (aP.get rfl) hg) rfl) fun bN ai _ => ?_)
 refine sqv ai rfl (r_pick_and (g := (true && (((((decide (a = 1)) && (decide (b ≤ 300))) && (decide (c ≤ 60))) && j) == true))) (ai.get rfl) (ai.get rfl) (fun he => g_mkt rfl he)) fun _ aQ => ?_
 refine sqv aQ rfl (r_move (aQ.get rfl)) fun _ aR => ?_
 refine sq (opk_gval aR rfl rfl (g := true) (e := (((((decide (a = 1)) && (decide (b ≤ 300))) && (decide (c ≤ 60))) && j) && (decide ((d.n : Int) = 0)))) rfl (fun hg => r_loadN (cs := [.int .i64 a, .string (Bs f), .string (Bs h), Sl.v d, Sl.v i]) Try.underlying29 rfl ti_29 (aR.get rfl) (ah.part 0 _ rfl)) fun bO aS _ => ?_)
 obtain ⟨s, bl, bm⟩ := bk
 refine sq (opk_gcall aS rfl rfl (g := true) (e := (((((decide (a = 1)) && (decide (b ≤ 300))) && (decide (c ≤ 60))) && j) && (decide ((d.n : Int) = 0)))) rfl (fun hg => r_call (args := #[.agg #[.int .i64 a, .string (Bs f), .string (Bs h), Sl.v d, Sl.v i]]) Try.func63 (by decide) rfl (map_arr (ml_cons (cv_get (aS.get rfl) hg) ml_nil)) rfl) (fun hg => bl ⟨⟨⟨⟨(of_decide_eq_true (b_and_t (b_and_t (b_and_t (b_and_t (g_t hg)).1).1).1).1), (of_decide_eq_true (b_and_t (b_and_t (b_and_t (b_and_t (g_t hg)).1).1).1).2)⟩, (of_decide_eq_true (b_and_t (b_and_t (b_and_t (g_t hg)).1).1).2)⟩, (b_and_t (b_and_t (g_t hg)).1).2⟩, (of_decide_eq_true (b_and_t (g_t hg)).2)⟩) fun bP t aj _ ak => ?_)
 have bQ := ah.ext ak
 have bR : Chg [] q t := ak
 have bn := bm t ak
 refine sqv aj rfl (r_pick_and (g := (true && ((((((decide (a = 1)) && (decide (b ≤ 300))) && (decide (c ≤ 60))) && j) && (decide ((d.n : Int) = 0))) == true))) (aj.get rfl) (aj.get rfl) (fun he => g_mkt rfl he)) fun _ aT => ?_
 refine sqv aT rfl (r_assign (aT.get rfl)) fun _ bo => ?_
 refine sq_end ?_
 have aU := bo.keep [(2, .bool ((((((decide (a = 1)) && (decide (b ≤ 300))) && (decide (c ≤ 60))) && j) && (decide ((d.n : Int) = 0))) && s))] ⟨rfl, trivial⟩
 refine then_normal ?_
 refine wp_ret ?_
 exact res_all (vs := [.bool ((((((decide (a = 1)) && (decide (b ≤ 300))) && (decide (c ≤ 60))) && j) && (decide ((d.n : Int) = 0))) && s)]) rfl aU ⟨res_of_tmp aU rfl, trivial⟩ bn
def tree_Size.vc (r : Int) (t : Str) (u : Str) (x : Sl) (b : Sl) (R : Value → World → Prop) (w : World) : Prop :=
∀ (h : World) (p : Nat), New w p h → Chg [] w h →
∃ (y : Int → Int → World → Prop) (aa : Int → Int → World → Nat),
y 1 0 h ∧
(∀ (d : Int) (c : Int) (f : World), y d c f →
((c < (b.n : Int)) →
((0 : Int) ≤ c ∧ c < (b.n : Int)) ∧ ∃ ad : Addr, b.a = some ad ∧
∃ (i : Int) (j : Str) (k : Str) (l : Sl) (m : Sl), (Cells f (ad.add (c.toNat * 5)) [.int .i64 i, .string (Bs j), .string (Bs k), Sl.v l, Sl.v m]) ∧
∀ (q : World) (o : Nat), New f o q → Chg [] f q →
CallK Try.prog 32 #[.agg #[.int .i64 i, .string (Bs j), .string (Bs k), Sl.v l, Sl.v m]] q [o] (fun v ab => ∃ (g : Int), v = .int .i64 g ∧
(I64 (d + g)) ∧
(I64 (c + 1)) ∧
y (d + g) (c + 1) ab ∧ aa (d + g) (c + 1) ab < aa d c f)) ∧
((¬ (c < (b.n : Int))) →
R (.int .i64 d) f))
theorem tree_Size.ok (r : Int) (t : Str) (u : Str) (x : Sl) (b : Sl) {R : Value → World → Prop} {w : World} (ai : tree_Size.vc r t u x b R w) : Calls Try.prog 32 #[.agg #[.int .i64 r, .string (Bs t), .string (Bs u), Sl.v x, Sl.v b]] w (Ret R) := by
 refine enter [.agg #[.int .i64 r, .string (Bs t), .string (Bs u), Sl.v x, Sl.v b]] Try.func32 rfl Try.ntmps32 rfl ?_
 intro a0 aj
 unfold tree_Size.vc at ai
 refine wp_seq (wp_region_lit ?_)
 refine sq (opk_new (fun B => .pointer (some ⟨B, 0, none⟩)) aj rfl (r_box (cs := [.int .i64 r, .string (Bs t), .string (Bs u), Sl.v x, Sl.v b]) (aj.get rfl) rfl) fun a4 h p aI aJ aK aL _ => ?_)
 have aM : New w p h := aJ
 have aN : Chg [] w h := aI
 refine sqv aL rfl (r_assign rfl) fun _ aO => ?_
 refine sq_end ?_
 have aP := aO.keep [(1, .pointer (some (⟨p, 0, none⟩ : Addr)))] ⟨rfl, trivial⟩
 refine then_normal (wp_seq (wp_region_lit ?_))
 refine sqv aP rfl (r_assign rfl) fun _ aQ => ?_
 refine sq_end ?_
 have ak := aQ.keep [(1, .pointer (some (⟨p, 0, none⟩ : Addr))), (3, .int .i64 1)] ⟨rfl, rfl, trivial⟩
 refine then_normal (wp_seq (wp_seq (wp_region_lit ?_)))
 refine sqv ak rfl (r_fieldAddr (ak.get rfl) Try.underlying29 rfl ti_27 (by decide)) fun _ al => ?_
 refine sqv al rfl (r_load1 Try.underlying27 rfl (al.get rfl) (aK.cell 4 _ rfl)) fun _ am => ?_
 refine sqv am rfl (r_len (am.get rfl) Try.underlying27) fun _ aR => ?_
 refine sqv aR rfl (r_move rfl) fun _ aS => ?_
 refine sq_end ?_
 have aT := aS.keep [(3, .int .i64 1), (7, Sl.v b), (8, .int .i64 (b.n : Int)), (9, .int .i64 0)] ⟨rfl, rfl, rfl, rfl, trivial⟩
 refine then_normal (wp_block ?_)
 have aU := ai h p aM  aN
 obtain ⟨y, aa, aV, aX⟩ := aU
 refine wp_loop_st (σ := Int × Int × World) (fun s a w => Ag 19 a [(3, .int .i64 s.1), (7, Sl.v b), (8, .int .i64 (b.n : Int)), (9, .int .i64 s.2.1)] ∧ w = s.2.2 ∧ y s.1 s.2.1 s.2.2) (fun s => aa s.1 s.2.1 s.2.2) (1, 0, h) ⟨aT.keep [(3, .int .i64 1), (7, Sl.v b), (8, .int .i64 (b.n : Int)), (9, .int .i64 0)] ⟨rfl, rfl, rfl, rfl, trivial⟩, rfl, aV⟩ ?_
 rintro ⟨d, c, f⟩ bv w_ ⟨af, hw_, aY⟩
 have hw_ : f = w_ := hw_.symm
 subst hw_
 have an := aX d c _ aY
 refine wp_seq (wp_region_lit ?_)
 refine sqv af rfl (r_lss (af.get rfl) (af.get rfl)) fun _ aZ => ?_
 refine sq_end ?_
 have z := aZ.keep [(3, .int .i64 d), (7, Sl.v b), (8, .int .i64 (b.n : Int)), (9, .int .i64 c), (10, .bool (decide (c < (b.n : Int))))] ⟨rfl, rfl, rfl, rfl, rfl, trivial⟩
 refine then_normal (wp_seq ?_)
 refine wp_cond_split (z.get rfl) (fun hc => ?_) (fun hc => ?_)
 ·have ht84 := an.1 (of_decide_eq_true hc)
  clear hc
  refine wp_skip ?_
  refine then_normal (wp_seq (wp_block (wp_seq (wp_region_lit ?_))))
  obtain ⟨a1, ad, a2, a3⟩ := ht84
  refine sqv z rfl (r_indexAddr (z.get rfl) (z.get rfl) Try.underlying27 ti_29 a1 a2) fun _ ao => ?_
  obtain ⟨i, j, k, l, m, hx93, a5⟩ := a3
  refine sqv ao rfl (r_loadN Try.underlying29 rfl ti_29 (ao.get rfl) hx93) fun _ a6 => ?_
  refine sq (opk_new (fun B => .pointer (some ⟨B, 0, none⟩)) a6 rfl (r_alloc (cs := [.int .i64 0, .string (Bs ([] : Str)), .string (Bs ([] : Str)), Sl.v Sl.nil, Sl.v Sl.nil]) ti_29 rfl) fun bx ap o a7 a8 aq ag _ => ?_)
  have ar : New f o ap := a8
  have a9 : Chg [] f ap := a7
  refine sq (opk_store ag aq (r_store (vs := [.int .i64 i, .string (Bs j), .string (Bs k), Sl.v l, Sl.v m]) (ag.get rfl) (ag.get rfl) rfl ti_29 aq rfl (ones_all [.int .i64 i, .string (Bs j), .string (Bs k), Sl.v l, Sl.v m] rfl)) fun bz q au ba bb => ?_)
  have av : Box q o 29 [.int .i64 i, .string (Bs j), .string (Bs k), Sl.v l, Sl.v m] := ba
  have bd := a9.storeNew ar au
  have bf := ar.up au.size
  refine sq_end ?_
  have ax := bb.keep [(3, .int .i64 d), (5, .pointer (some (⟨o, 0, none⟩ : Addr))), (7, Sl.v b), (8, .int .i64 (b.n : Int)), (9, .int .i64 c)] ⟨rfl, rfl, rfl, rfl, rfl, trivial⟩
  refine then_normal (wp_region_lit ?_)
  refine sqv ax rfl (r_move (ax.get rfl)) fun _ ay => ?_
  refine sqv ay rfl (r_loadN (cs := [.int .i64 i, .string (Bs j), .string (Bs k), Sl.v l, Sl.v m]) Try.underlying29 rfl ti_29 (ay.get rfl) (av.part 0 _ rfl)) fun _ az => ?_
  have bg := a5 q o bf  bd
  refine sq (opk_call az rfl (r_call (args := #[.agg #[.int .i64 i, .string (Bs j), .string (Bs k), Sl.v l, Sl.v m]]) Try.func32 (by decide) rfl (map_arr (ml_cons (az.get rfl) ml_nil)) rfl) bg fun bA bB ab ah _ bh bC bi => ?_)
  obtain ⟨g, rfl, bj⟩ := bi
  have bD := av.kept bh (.head _)
  obtain ⟨bk, bl⟩ := bj
  refine sqv ah rfl (r_addI (ah.get rfl) (ah.get rfl) bk) fun _ aA => ?_
  refine sqv aA rfl (r_assign (aA.get rfl)) fun _ bm => ?_
  refine sq_end ?_
  have aB := bm.keep [(3, .int .i64 (d + g)), (7, Sl.v b), (8, .int .i64 (b.n : Int)), (9, .int .i64 c)] ⟨rfl, rfl, rfl, rfl, trivial⟩
  refine block_normal ?_
  refine then_normal (wp_region_lit ?_)
  obtain ⟨bn, aC⟩ := bl
  refine sqv aB rfl (r_addI (aB.get rfl) rfl bn) fun _ aD => ?_
  refine sqv aD rfl (r_move (aD.get rfl)) fun _ bo => ?_
  refine sq_end ?_
  have bp := bo.keep [(3, .int .i64 (d + g)), (7, Sl.v b), (8, .int .i64 (b.n : Int)), (9, .int .i64 (c + 1))] ⟨rfl, rfl, rfl, rfl, trivial⟩
  have bq := bp.keep [(3, .int .i64 (d + g)), (7, Sl.v b), (8, .int .i64 (b.n : Int)), (9, .int .i64 (c + 1))] ⟨rfl, rfl, rfl, rfl, trivial⟩
  exact then_normal ⟨(d + g, c + 1, ab), ⟨bq, rfl, aC.1⟩, aC.2⟩
 ·have br := an.2 (of_decide_eq_false hc)
  clear hc
  refine wp_exit ?_
  refine then_exit ?_
  refine then_exit ?_
  refine block_hit ?_
  have aF := z.keep [(3, .int .i64 d)] ⟨rfl, trivial⟩
  refine then_normal (wp_seq (wp_region_lit ?_))
  refine sqv aF rfl (r_move (aF.get rfl)) fun _ aG => ?_
  refine sqv aG rfl (r_assign (aG.get rfl)) fun _ bs => ?_
  refine sq_end ?_
  have aH := bs.keep [(2, .int .i64 d)] ⟨rfl, trivial⟩
  refine then_normal ?_
  refine wp_ret ?_
  exact res_all (vs := [.int .i64 d]) rfl aH ⟨res_of_tmp aH rfl, trivial⟩ br
def tree_Name.vc (b : Str) (R : Value → World → Prop) (w : World) : Prop :=
(((b = ([] : Str)) ∨ (32 < (b.length : Int))) →
R (.bool false) w) ∧
(((¬ (b = ([] : Str))) ∧ (¬ (32 < (b.length : Int)))) →
∃ (f : Int → World → Prop) (i : Int → World → Nat),
f 0 w ∧
(∀ (c : Int) (d : World), f c d →
((c < (b.length : Int)) →
((0 : Int) ≤ c ∧ c < (b.length : Int)) ∧
(((((b.getD c.toNat 0).toNat : Int) = 9) ∨ ((((b.getD c.toNat 0).toNat : Int) = 10) ∨ ((((b.getD c.toNat 0).toNat : Int) = 12) ∨ ((((b.getD c.toNat 0).toNat : Int) = 32) ∨ ((((b.getD c.toNat 0).toNat : Int) = 0) ∨ ((((b.getD c.toNat 0).toNat : Int) = 34) ∨ ((((b.getD c.toNat 0).toNat : Int) = 39) ∨ ((((b.getD c.toNat 0).toNat : Int) = 62) ∨ ((((b.getD c.toNat 0).toNat : Int) = 47) ∨ ((((b.getD c.toNat 0).toNat : Int) = 61) ∨ (((b.getD c.toNat 0).toNat : Int) = 60))))))))))) →
R (.bool false) d) ∧
(((¬ (((b.getD c.toNat 0).toNat : Int) = 9)) ∧ ((¬ (((b.getD c.toNat 0).toNat : Int) = 10)) ∧ ((¬ (((b.getD c.toNat 0).toNat : Int) = 12)) ∧ ((¬ (((b.getD c.toNat 0).toNat : Int) = 32)) ∧ ((¬ (((b.getD c.toNat 0).toNat : Int) = 0)) ∧ ((¬ (((b.getD c.toNat 0).toNat : Int) = 34)) ∧ ((¬ (((b.getD c.toNat 0).toNat : Int) = 39)) ∧ ((¬ (((b.getD c.toNat 0).toNat : Int) = 62)) ∧ ((¬ (((b.getD c.toNat 0).toNat : Int) = 47)) ∧ ((¬ (((b.getD c.toNat 0).toNat : Int) = 61)) ∧ (¬ (((b.getD c.toNat 0).toNat : Int) = 60)))))))))))) →
(((65 ≤ ((b.getD c.toNat 0).toNat : Int)) ∧ (((b.getD c.toNat 0).toNat : Int) ≤ 90)) →
R (.bool false) d) ∧
(((¬ (65 ≤ ((b.getD c.toNat 0).toNat : Int))) ∨ (¬ (((b.getD c.toNat 0).toNat : Int) ≤ 90))) →
(I64 (c + 1)) ∧
f (c + 1) d ∧ i (c + 1) d < i c d))) ∧
((¬ (c < (b.length : Int))) →
R (.bool true) d)))
theorem tree_Name.ok (b : Str) {R : Value → World → Prop} {w : World} (aa : tree_Name.vc b R w) : Calls Try.prog 50 #[.string (Bs b)] w (Ret R) := by
 refine enter [.string (Bs b)] Try.func50 rfl Try.ntmps50 rfl ?_
 intro a0 aX
 unfold tree_Name.vc at aa
 refine wp_seq (wp_region_lit ?_)
 refine sqv aX rfl (r_assign rfl) fun _ aY => ?_
 refine sq_end ?_
 have ah := aY.keep [(0, .string (Bs b))] ⟨rfl, trivial⟩
 refine then_normal (wp_seq (wp_seq (wp_region_lit ?_)))
 refine sqv ah rfl (r_move (ah.get rfl)) fun _ ai => ?_
 refine sqv ai rfl (r_seql (ai.get rfl) rfl) fun _ aj => ?_
 refine sqv aj rfl (r_move (aj.get rfl)) fun _ ak => ?_
 refine sq (opk_gval ak rfl rfl (g := true) (e := (decide (b = ([] : Str)))) rfl (fun hg => r_move (ak.get rfl)) fun a7 al _ => ?_)
 refine sq (opk_gval al rfl rfl (g := true) (e := (decide (b = ([] : Str)))) rfl (fun hg => r_slen (cv_get (al.get rfl) hg) Try.underlying9) fun a8 am _ => ?_)
 refine sq (opk_gval am rfl rfl (g := true) (e := (decide (b = ([] : Str)))) rfl (fun hg => r_gtr (cv_get (am.get rfl) hg) rfl) fun a9 ab _ => ?_)
 refine sqv ab rfl (r_pick_or (g := (true && ((decide (b = ([] : Str))) == false))) (ab.get rfl) (ab.get rfl) (fun he => g_mkf rfl he)) fun _ aZ => ?_
 refine sq_end ?_
 have j := aZ.keep [(0, .string (Bs b)), (11, .bool ((decide (b = ([] : Str))) || (decide (32 < (b.length : Int)))))] ⟨rfl, rfl, trivial⟩
 refine then_normal ?_
 refine wp_cond_split (j.get rfl) (fun hc => ?_) (fun hc => ?_)
 ·have ht12 := aa.1 ((b_or_t hc).imp (fun h => (of_decide_eq_true h)) (fun h => (of_decide_eq_true h)))
  clear hc
  refine wp_seq (wp_region_lit ?_)
  refine sqv j rfl (r_assign rfl) fun _ a1 => ?_
  refine sq_end ?_
  have an := a1.keep [(2, .bool false)] ⟨rfl, trivial⟩
  refine then_normal ?_
  refine wp_ret ?_
  refine then_ret ?_
  exact res_all (vs := [.bool false]) rfl an ⟨res_of_tmp an rfl, trivial⟩ ht12
 ·have a2 := aa.2 ⟨(of_decide_eq_false (b_or_f hc).1), (of_decide_eq_false (b_or_f hc).2)⟩
  clear hc
  refine wp_skip ?_
  refine then_normal (wp_seq (wp_seq (wp_region_lit ?_)))
  refine sqv j rfl (r_move (j.get rfl)) fun _ ao => ?_
  refine sqv ao rfl (r_slen (ao.get rfl) Try.underlying9) fun _ a3 => ?_
  refine sqv a3 rfl (r_move rfl) fun _ a4 => ?_
  refine sq_end ?_
  have a5 := a4.keep [(0, .string (Bs b)), (13, .int .i64 (b.length : Int)), (14, .int .i64 0)] ⟨rfl, rfl, rfl, trivial⟩
  refine then_normal (wp_block ?_)
  obtain ⟨f, i, a6, ht9272⟩ := a2
  refine wp_loop_st (σ := Int × World) (fun s a w => Ag 40 a [(0, .string (Bs b)), (13, .int .i64 (b.length : Int)), (14, .int .i64 s.1)] ∧ w = s.2 ∧ f s.1 s.2) (fun s => i s.1 s.2) (0, w) ⟨a5.keep [(0, .string (Bs b)), (13, .int .i64 (b.length : Int)), (14, .int .i64 0)] ⟨rfl, rfl, rfl, trivial⟩, rfl, a6⟩ ?_
  rintro ⟨c, d⟩ ci w_ ⟨ad, hw_, hJ9275⟩
  have hw_ : d = w_ := hw_.symm
  subst hw_
  have ap := ht9272 c _ hJ9275
  refine wp_seq (wp_region_lit ?_)
  refine sqv ad rfl (r_lss (ad.get rfl) (ad.get rfl)) fun _ hA9276 => ?_
  refine sq_end ?_
  have k := hA9276.keep [(0, .string (Bs b)), (13, .int .i64 (b.length : Int)), (14, .int .i64 c), (15, .bool (decide (c < (b.length : Int))))] ⟨rfl, rfl, rfl, rfl, trivial⟩
  refine then_normal (wp_seq ?_)
  refine wp_cond_split (k.get rfl) (fun hc => ?_) (fun hc => ?_)
  ·have ba := ap.1 (of_decide_eq_true hc)
   clear hc
   refine wp_skip ?_
   refine then_normal (wp_seq (wp_block (wp_seq (wp_region_lit ?_))))
   refine sqv k rfl (r_move (k.get rfl)) fun _ aq => ?_
   refine sqv aq rfl (r_assign (aq.get rfl)) fun _ bb => ?_
   refine sq_end ?_
   have ar := bb.keep [(0, .string (Bs b)), (3, .int .i64 c), (13, .int .i64 (b.length : Int)), (14, .int .i64 c)] ⟨rfl, rfl, rfl, rfl, trivial⟩
   refine then_normal (wp_seq (wp_region_lit ?_))
   refine sqv ar rfl (r_move (ar.get rfl)) fun _ au => ?_
   refine sqv au rfl (r_move (au.get rfl)) fun _ af => ?_
   obtain ⟨bd, av⟩ := ba
   refine sqv af rfl (r_sindex (af.get rfl) (af.get rfl) Try.underlying9 bd) fun _ ax => ?_
   refine sqv ax rfl (r_assign (ax.get rfl)) fun _ bf => ?_
   refine sq_end ?_
   have ay := bf.keep [(0, .string (Bs b)), (4, .int .u8 ((b.getD c.toNat 0).toNat : Int)), (13, .int .i64 (b.length : Int)), (14, .int .i64 c)] ⟨rfl, rfl, rfl, rfl, trivial⟩
   refine then_normal (wp_seq (wp_region_lit ?_))
   refine sqv ay rfl (r_move (ay.get rfl)) fun _ bg => ?_
   refine sq_end ?_
   have az := bg.keep [(0, .string (Bs b)), (4, .int .u8 ((b.getD c.toNat 0).toNat : Int)), (13, .int .i64 (b.length : Int)), (14, .int .i64 c), (20, .int .u8 ((b.getD c.toNat 0).toNat : Int))] ⟨rfl, rfl, rfl, rfl, rfl, trivial⟩
   refine then_normal (wp_block (wp_seq (wp_seq (wp_region_lit ?_))))
   refine sqv az rfl (r_eql (az.get rfl) rfl) fun _ aA => ?_
   refine sqv aA rfl (r_assign (aA.get rfl)) fun _ bh => ?_
   refine sq_end ?_
   have l := bh.keep [(0, .string (Bs b)), (4, .int .u8 ((b.getD c.toNat 0).toNat : Int)), (13, .int .i64 (b.length : Int)), (14, .int .i64 c), (20, .int .u8 ((b.getD c.toNat 0).toNat : Int)), (27, .bool (decide (((b.getD c.toNat 0).toNat : Int) = 9)))] ⟨rfl, rfl, rfl, rfl, rfl, rfl, trivial⟩
   refine then_normal ?_
   refine wp_meet (fun a wq => Ag 40 a [(0, .string (Bs b)), (4, .int .u8 ((b.getD c.toNat 0).toNat : Int)), (13, .int .i64 (b.length : Int)), (14, .int .i64 c), (27, .bool ((decide (((b.getD c.toNat 0).toNat : Int) = 9)) || ((decide (((b.getD c.toNat 0).toNat : Int) = 10)) || ((decide (((b.getD c.toNat 0).toNat : Int) = 12)) || ((decide (((b.getD c.toNat 0).toNat : Int) = 32)) || ((decide (((b.getD c.toNat 0).toNat : Int) = 0)) || ((decide (((b.getD c.toNat 0).toNat : Int) = 34)) || ((decide (((b.getD c.toNat 0).toNat : Int) = 39)) || ((decide (((b.getD c.toNat 0).toNat : Int) = 62)) || ((decide (((b.getD c.toNat 0).toNat : Int) = 47)) || ((decide (((b.getD c.toNat 0).toNat : Int) = 61)) || (decide (((b.getD c.toNat 0).toNat : Int) = 60)))))))))))))] ∧ wq = d) ?_ ?_
   ·refine wp_cond_split (l.get rfl) (fun hc => ?_) (fun hc => ?_)
    ·refine wp_skip ?_
     have bi := l.say (t := 27) rfl (.bool ((decide (((b.getD c.toNat 0).toNat : Int) = 9)) || ((decide (((b.getD c.toNat 0).toNat : Int) = 10)) || ((decide (((b.getD c.toNat 0).toNat : Int) = 12)) || ((decide (((b.getD c.toNat 0).toNat : Int) = 32)) || ((decide (((b.getD c.toNat 0).toNat : Int) = 0)) || ((decide (((b.getD c.toNat 0).toNat : Int) = 34)) || ((decide (((b.getD c.toNat 0).toNat : Int) = 39)) || ((decide (((b.getD c.toNat 0).toNat : Int) = 62)) || ((decide (((b.getD c.toNat 0).toNat : Int) = 47)) || ((decide (((b.getD c.toNat 0).toNat : Int) = 61)) || (decide (((b.getD c.toNat 0).toNat : Int) = 60))))))))))))) (by rw [hc]; rfl)
     exact then_normal ⟨bi.keep [(0, .string (Bs b)), (4, .int .u8 ((b.getD c.toNat 0).toNat : Int)), (13, .int .i64 (b.length : Int)), (14, .int .i64 c), (27, .bool ((decide (((b.getD c.toNat 0).toNat : Int) = 9)) || ((decide (((b.getD c.toNat 0).toNat : Int) = 10)) || ((decide (((b.getD c.toNat 0).toNat : Int) = 12)) || ((decide (((b.getD c.toNat 0).toNat : Int) = 32)) || ((decide (((b.getD c.toNat 0).toNat : Int) = 0)) || ((decide (((b.getD c.toNat 0).toNat : Int) = 34)) || ((decide (((b.getD c.toNat 0).toNat : Int) = 39)) || ((decide (((b.getD c.toNat 0).toNat : Int) = 62)) || ((decide (((b.getD c.toNat 0).toNat : Int) = 47)) || ((decide (((b.getD c.toNat 0).toNat : Int) = 61)) || (decide (((b.getD c.toNat 0).toNat : Int) = 60)))))))))))))] ⟨rfl, rfl, rfl, rfl, rfl, trivial⟩, rfl⟩
    ·refine wp_seq (wp_region_lit ?_)
     refine sqv l rfl (r_eql (l.get rfl) rfl) fun _ aB => ?_
     refine sqv aB rfl (r_assign (aB.get rfl)) fun _ bj => ?_
     refine sq_end ?_
     have m := bj.keep [(0, .string (Bs b)), (4, .int .u8 ((b.getD c.toNat 0).toNat : Int)), (13, .int .i64 (b.length : Int)), (14, .int .i64 c), (20, .int .u8 ((b.getD c.toNat 0).toNat : Int)), (27, .bool (decide (((b.getD c.toNat 0).toNat : Int) = 10)))] ⟨rfl, rfl, rfl, rfl, rfl, rfl, trivial⟩
     refine then_normal ?_
     refine wp_meet (fun a wq => Ag 40 a [(0, .string (Bs b)), (4, .int .u8 ((b.getD c.toNat 0).toNat : Int)), (13, .int .i64 (b.length : Int)), (14, .int .i64 c), (27, .bool ((decide (((b.getD c.toNat 0).toNat : Int) = 10)) || ((decide (((b.getD c.toNat 0).toNat : Int) = 12)) || ((decide (((b.getD c.toNat 0).toNat : Int) = 32)) || ((decide (((b.getD c.toNat 0).toNat : Int) = 0)) || ((decide (((b.getD c.toNat 0).toNat : Int) = 34)) || ((decide (((b.getD c.toNat 0).toNat : Int) = 39)) || ((decide (((b.getD c.toNat 0).toNat : Int) = 62)) || ((decide (((b.getD c.toNat 0).toNat : Int) = 47)) || ((decide (((b.getD c.toNat 0).toNat : Int) = 61)) || (decide (((b.getD c.toNat 0).toNat : Int) = 60))))))))))))] ∧ wq = d) ?_ ?_
     ·refine wp_cond_split (m.get rfl) (fun hc => ?_) (fun hc => ?_)
      ·refine wp_skip ?_
       have bk := m.say (t := 27) rfl (.bool ((decide (((b.getD c.toNat 0).toNat : Int) = 10)) || ((decide (((b.getD c.toNat 0).toNat : Int) = 12)) || ((decide (((b.getD c.toNat 0).toNat : Int) = 32)) || ((decide (((b.getD c.toNat 0).toNat : Int) = 0)) || ((decide (((b.getD c.toNat 0).toNat : Int) = 34)) || ((decide (((b.getD c.toNat 0).toNat : Int) = 39)) || ((decide (((b.getD c.toNat 0).toNat : Int) = 62)) || ((decide (((b.getD c.toNat 0).toNat : Int) = 47)) || ((decide (((b.getD c.toNat 0).toNat : Int) = 61)) || (decide (((b.getD c.toNat 0).toNat : Int) = 60)))))))))))) (by rw [hc]; rfl)
       exact then_normal ⟨bk.keep [(0, .string (Bs b)), (4, .int .u8 ((b.getD c.toNat 0).toNat : Int)), (13, .int .i64 (b.length : Int)), (14, .int .i64 c), (27, .bool ((decide (((b.getD c.toNat 0).toNat : Int) = 10)) || ((decide (((b.getD c.toNat 0).toNat : Int) = 12)) || ((decide (((b.getD c.toNat 0).toNat : Int) = 32)) || ((decide (((b.getD c.toNat 0).toNat : Int) = 0)) || ((decide (((b.getD c.toNat 0).toNat : Int) = 34)) || ((decide (((b.getD c.toNat 0).toNat : Int) = 39)) || ((decide (((b.getD c.toNat 0).toNat : Int) = 62)) || ((decide (((b.getD c.toNat 0).toNat : Int) = 47)) || ((decide (((b.getD c.toNat 0).toNat : Int) = 61)) || (decide (((b.getD c.toNat 0).toNat : Int) = 60))))))))))))] ⟨rfl, rfl, rfl, rfl, rfl, trivial⟩, rfl⟩
      ·refine wp_seq (wp_region_lit ?_)
       refine sqv m rfl (r_eql (m.get rfl) rfl) fun _ aC => ?_
       refine sqv aC rfl (r_assign (aC.get rfl)) fun _ bl => ?_
       refine sq_end ?_
       have n := bl.keep [(0, .string (Bs b)), (4, .int .u8 ((b.getD c.toNat 0).toNat : Int)), (13, .int .i64 (b.length : Int)), (14, .int .i64 c), (20, .int .u8 ((b.getD c.toNat 0).toNat : Int)), (27, .bool (decide (((b.getD c.toNat 0).toNat : Int) = 12)))] ⟨rfl, rfl, rfl, rfl, rfl, rfl, trivial⟩
       refine then_normal ?_
       refine wp_meet (fun a wq => Ag 40 a [(0, .string (Bs b)), (4, .int .u8 ((b.getD c.toNat 0).toNat : Int)), (13, .int .i64 (b.length : Int)), (14, .int .i64 c), (27, .bool ((decide (((b.getD c.toNat 0).toNat : Int) = 12)) || ((decide (((b.getD c.toNat 0).toNat : Int) = 32)) || ((decide (((b.getD c.toNat 0).toNat : Int) = 0)) || ((decide (((b.getD c.toNat 0).toNat : Int) = 34)) || ((decide (((b.getD c.toNat 0).toNat : Int) = 39)) || ((decide (((b.getD c.toNat 0).toNat : Int) = 62)) || ((decide (((b.getD c.toNat 0).toNat : Int) = 47)) || ((decide (((b.getD c.toNat 0).toNat : Int) = 61)) || (decide (((b.getD c.toNat 0).toNat : Int) = 60)))))))))))] ∧ wq = d) ?_ ?_
       ·refine wp_cond_split (n.get rfl) (fun hc => ?_) (fun hc => ?_)
        ·refine wp_skip ?_
         have bm := n.say (t := 27) rfl (.bool ((decide (((b.getD c.toNat 0).toNat : Int) = 12)) || ((decide (((b.getD c.toNat 0).toNat : Int) = 32)) || ((decide (((b.getD c.toNat 0).toNat : Int) = 0)) || ((decide (((b.getD c.toNat 0).toNat : Int) = 34)) || ((decide (((b.getD c.toNat 0).toNat : Int) = 39)) || ((decide (((b.getD c.toNat 0).toNat : Int) = 62)) || ((decide (((b.getD c.toNat 0).toNat : Int) = 47)) || ((decide (((b.getD c.toNat 0).toNat : Int) = 61)) || (decide (((b.getD c.toNat 0).toNat : Int) = 60))))))))))) (by rw [hc]; rfl)
         exact then_normal ⟨bm.keep [(0, .string (Bs b)), (4, .int .u8 ((b.getD c.toNat 0).toNat : Int)), (13, .int .i64 (b.length : Int)), (14, .int .i64 c), (27, .bool ((decide (((b.getD c.toNat 0).toNat : Int) = 12)) || ((decide (((b.getD c.toNat 0).toNat : Int) = 32)) || ((decide (((b.getD c.toNat 0).toNat : Int) = 0)) || ((decide (((b.getD c.toNat 0).toNat : Int) = 34)) || ((decide (((b.getD c.toNat 0).toNat : Int) = 39)) || ((decide (((b.getD c.toNat 0).toNat : Int) = 62)) || ((decide (((b.getD c.toNat 0).toNat : Int) = 47)) || ((decide (((b.getD c.toNat 0).toNat : Int) = 61)) || (decide (((b.getD c.toNat 0).toNat : Int) = 60)))))))))))] ⟨rfl, rfl, rfl, rfl, rfl, trivial⟩, rfl⟩
        ·refine wp_seq (wp_region_lit ?_)
         refine sqv n rfl (r_eql (n.get rfl) rfl) fun _ aD => ?_
         refine sqv aD rfl (r_assign (aD.get rfl)) fun _ bn => ?_
         refine sq_end ?_
         have o := bn.keep [(0, .string (Bs b)), (4, .int .u8 ((b.getD c.toNat 0).toNat : Int)), (13, .int .i64 (b.length : Int)), (14, .int .i64 c), (20, .int .u8 ((b.getD c.toNat 0).toNat : Int)), (27, .bool (decide (((b.getD c.toNat 0).toNat : Int) = 32)))] ⟨rfl, rfl, rfl, rfl, rfl, rfl, trivial⟩
         refine then_normal ?_
         refine wp_meet (fun a wq => Ag 40 a [(0, .string (Bs b)), (4, .int .u8 ((b.getD c.toNat 0).toNat : Int)), (13, .int .i64 (b.length : Int)), (14, .int .i64 c), (27, .bool ((decide (((b.getD c.toNat 0).toNat : Int) = 32)) || ((decide (((b.getD c.toNat 0).toNat : Int) = 0)) || ((decide (((b.getD c.toNat 0).toNat : Int) = 34)) || ((decide (((b.getD c.toNat 0).toNat : Int) = 39)) || ((decide (((b.getD c.toNat 0).toNat : Int) = 62)) || ((decide (((b.getD c.toNat 0).toNat : Int) = 47)) || ((decide (((b.getD c.toNat 0).toNat : Int) = 61)) || (decide (((b.getD c.toNat 0).toNat : Int) = 60))))))))))] ∧ wq = d) ?_ ?_
         ·refine wp_cond_split (o.get rfl) (fun hc => ?_) (fun hc => ?_)
          ·refine wp_skip ?_
           have bo := o.say (t := 27) rfl (.bool ((decide (((b.getD c.toNat 0).toNat : Int) = 32)) || ((decide (((b.getD c.toNat 0).toNat : Int) = 0)) || ((decide (((b.getD c.toNat 0).toNat : Int) = 34)) || ((decide (((b.getD c.toNat 0).toNat : Int) = 39)) || ((decide (((b.getD c.toNat 0).toNat : Int) = 62)) || ((decide (((b.getD c.toNat 0).toNat : Int) = 47)) || ((decide (((b.getD c.toNat 0).toNat : Int) = 61)) || (decide (((b.getD c.toNat 0).toNat : Int) = 60)))))))))) (by rw [hc]; rfl)
           exact then_normal ⟨bo.keep [(0, .string (Bs b)), (4, .int .u8 ((b.getD c.toNat 0).toNat : Int)), (13, .int .i64 (b.length : Int)), (14, .int .i64 c), (27, .bool ((decide (((b.getD c.toNat 0).toNat : Int) = 32)) || ((decide (((b.getD c.toNat 0).toNat : Int) = 0)) || ((decide (((b.getD c.toNat 0).toNat : Int) = 34)) || ((decide (((b.getD c.toNat 0).toNat : Int) = 39)) || ((decide (((b.getD c.toNat 0).toNat : Int) = 62)) || ((decide (((b.getD c.toNat 0).toNat : Int) = 47)) || ((decide (((b.getD c.toNat 0).toNat : Int) = 61)) || (decide (((b.getD c.toNat 0).toNat : Int) = 60))))))))))] ⟨rfl, rfl, rfl, rfl, rfl, trivial⟩, rfl⟩
          ·refine wp_seq (wp_region_lit ?_)
           refine sqv o rfl (r_eql (o.get rfl) rfl) fun _ aF => ?_
           refine sqv aF rfl (r_assign (aF.get rfl)) fun _ bp => ?_
           refine sq_end ?_
           have p := bp.keep [(0, .string (Bs b)), (4, .int .u8 ((b.getD c.toNat 0).toNat : Int)), (13, .int .i64 (b.length : Int)), (14, .int .i64 c), (20, .int .u8 ((b.getD c.toNat 0).toNat : Int)), (27, .bool (decide (((b.getD c.toNat 0).toNat : Int) = 0)))] ⟨rfl, rfl, rfl, rfl, rfl, rfl, trivial⟩
           refine then_normal ?_
           refine wp_meet (fun a wq => Ag 40 a [(0, .string (Bs b)), (4, .int .u8 ((b.getD c.toNat 0).toNat : Int)), (13, .int .i64 (b.length : Int)), (14, .int .i64 c), (27, .bool ((decide (((b.getD c.toNat 0).toNat : Int) = 0)) || ((decide (((b.getD c.toNat 0).toNat : Int) = 34)) || ((decide (((b.getD c.toNat 0).toNat : Int) = 39)) || ((decide (((b.getD c.toNat 0).toNat : Int) = 62)) || ((decide (((b.getD c.toNat 0).toNat : Int) = 47)) || ((decide (((b.getD c.toNat 0).toNat : Int) = 61)) || (decide (((b.getD c.toNat 0).toNat : Int) = 60)))))))))] ∧ wq = d) ?_ ?_
           ·refine wp_cond_split (p.get rfl) (fun hc => ?_) (fun hc => ?_)
            ·refine wp_skip ?_
             have bq := p.say (t := 27) rfl (.bool ((decide (((b.getD c.toNat 0).toNat : Int) = 0)) || ((decide (((b.getD c.toNat 0).toNat : Int) = 34)) || ((decide (((b.getD c.toNat 0).toNat : Int) = 39)) || ((decide (((b.getD c.toNat 0).toNat : Int) = 62)) || ((decide (((b.getD c.toNat 0).toNat : Int) = 47)) || ((decide (((b.getD c.toNat 0).toNat : Int) = 61)) || (decide (((b.getD c.toNat 0).toNat : Int) = 60))))))))) (by rw [hc]; rfl)
             exact then_normal ⟨bq.keep [(0, .string (Bs b)), (4, .int .u8 ((b.getD c.toNat 0).toNat : Int)), (13, .int .i64 (b.length : Int)), (14, .int .i64 c), (27, .bool ((decide (((b.getD c.toNat 0).toNat : Int) = 0)) || ((decide (((b.getD c.toNat 0).toNat : Int) = 34)) || ((decide (((b.getD c.toNat 0).toNat : Int) = 39)) || ((decide (((b.getD c.toNat 0).toNat : Int) = 62)) || ((decide (((b.getD c.toNat 0).toNat : Int) = 47)) || ((decide (((b.getD c.toNat 0).toNat : Int) = 61)) || (decide (((b.getD c.toNat 0).toNat : Int) = 60)))))))))] ⟨rfl, rfl, rfl, rfl, rfl, trivial⟩, rfl⟩
            ·refine wp_seq (wp_region_lit ?_)
             refine sqv p rfl (r_eql (p.get rfl) rfl) fun _ aG => ?_
             refine sqv aG rfl (r_assign (aG.get rfl)) fun _ br => ?_
             refine sq_end ?_
             have q := br.keep [(0, .string (Bs b)), (4, .int .u8 ((b.getD c.toNat 0).toNat : Int)), (13, .int .i64 (b.length : Int)), (14, .int .i64 c), (20, .int .u8 ((b.getD c.toNat 0).toNat : Int)), (27, .bool (decide (((b.getD c.toNat 0).toNat : Int) = 34)))] ⟨rfl, rfl, rfl, rfl, rfl, rfl, trivial⟩
             refine then_normal ?_
             refine wp_meet (fun a wq => Ag 40 a [(0, .string (Bs b)), (4, .int .u8 ((b.getD c.toNat 0).toNat : Int)), (13, .int .i64 (b.length : Int)), (14, .int .i64 c), (27, .bool ((decide (((b.getD c.toNat 0).toNat : Int) = 34)) || ((decide (((b.getD c.toNat 0).toNat : Int) = 39)) || ((decide (((b.getD c.toNat 0).toNat : Int) = 62)) || ((decide (((b.getD c.toNat 0).toNat : Int) = 47)) || ((decide (((b.getD c.toNat 0).toNat : Int) = 61)) || (decide (((b.getD c.toNat 0).toNat : Int) = 60))))))))] ∧ wq = d) ?_ ?_
             ·refine wp_cond_split (q.get rfl) (fun hc => ?_) (fun hc => ?_)
              ·refine wp_skip ?_
               have bs := q.say (t := 27) rfl (.bool ((decide (((b.getD c.toNat 0).toNat : Int) = 34)) || ((decide (((b.getD c.toNat 0).toNat : Int) = 39)) || ((decide (((b.getD c.toNat 0).toNat : Int) = 62)) || ((decide (((b.getD c.toNat 0).toNat : Int) = 47)) || ((decide (((b.getD c.toNat 0).toNat : Int) = 61)) || (decide (((b.getD c.toNat 0).toNat : Int) = 60)))))))) (by rw [hc]; rfl)
               exact then_normal ⟨bs.keep [(0, .string (Bs b)), (4, .int .u8 ((b.getD c.toNat 0).toNat : Int)), (13, .int .i64 (b.length : Int)), (14, .int .i64 c), (27, .bool ((decide (((b.getD c.toNat 0).toNat : Int) = 34)) || ((decide (((b.getD c.toNat 0).toNat : Int) = 39)) || ((decide (((b.getD c.toNat 0).toNat : Int) = 62)) || ((decide (((b.getD c.toNat 0).toNat : Int) = 47)) || ((decide (((b.getD c.toNat 0).toNat : Int) = 61)) || (decide (((b.getD c.toNat 0).toNat : Int) = 60))))))))] ⟨rfl, rfl, rfl, rfl, rfl, trivial⟩, rfl⟩
              ·refine wp_seq (wp_region_lit ?_)
               refine sqv q rfl (r_eql (q.get rfl) rfl) fun _ aH => ?_
               refine sqv aH rfl (r_assign (aH.get rfl)) fun _ bt => ?_
               refine sq_end ?_
               have r := bt.keep [(0, .string (Bs b)), (4, .int .u8 ((b.getD c.toNat 0).toNat : Int)), (13, .int .i64 (b.length : Int)), (14, .int .i64 c), (20, .int .u8 ((b.getD c.toNat 0).toNat : Int)), (27, .bool (decide (((b.getD c.toNat 0).toNat : Int) = 39)))] ⟨rfl, rfl, rfl, rfl, rfl, rfl, trivial⟩
               refine then_normal ?_
               refine wp_meet (fun a wq => Ag 40 a [(0, .string (Bs b)), (4, .int .u8 ((b.getD c.toNat 0).toNat : Int)), (13, .int .i64 (b.length : Int)), (14, .int .i64 c), (27, .bool ((decide (((b.getD c.toNat 0).toNat : Int) = 39)) || ((decide (((b.getD c.toNat 0).toNat : Int) = 62)) || ((decide (((b.getD c.toNat 0).toNat : Int) = 47)) || ((decide (((b.getD c.toNat 0).toNat : Int) = 61)) || (decide (((b.getD c.toNat 0).toNat : Int) = 60)))))))] ∧ wq = d) ?_ ?_
               ·refine wp_cond_split (r.get rfl) (fun hc => ?_) (fun hc => ?_)
                ·refine wp_skip ?_
                 have bu := r.say (t := 27) rfl (.bool ((decide (((b.getD c.toNat 0).toNat : Int) = 39)) || ((decide (((b.getD c.toNat 0).toNat : Int) = 62)) || ((decide (((b.getD c.toNat 0).toNat : Int) = 47)) || ((decide (((b.getD c.toNat 0).toNat : Int) = 61)) || (decide (((b.getD c.toNat 0).toNat : Int) = 60))))))) (by rw [hc]; rfl)
                 exact then_normal ⟨bu.keep [(0, .string (Bs b)), (4, .int .u8 ((b.getD c.toNat 0).toNat : Int)), (13, .int .i64 (b.length : Int)), (14, .int .i64 c), (27, .bool ((decide (((b.getD c.toNat 0).toNat : Int) = 39)) || ((decide (((b.getD c.toNat 0).toNat : Int) = 62)) || ((decide (((b.getD c.toNat 0).toNat : Int) = 47)) || ((decide (((b.getD c.toNat 0).toNat : Int) = 61)) || (decide (((b.getD c.toNat 0).toNat : Int) = 60)))))))] ⟨rfl, rfl, rfl, rfl, rfl, trivial⟩, rfl⟩
                ·refine wp_seq (wp_region_lit ?_)
                 refine sqv r rfl (r_eql (r.get rfl) rfl) fun _ aI => ?_
                 refine sqv aI rfl (r_assign (aI.get rfl)) fun _ bv => ?_
                 refine sq_end ?_
                 have u := bv.keep [(0, .string (Bs b)), (4, .int .u8 ((b.getD c.toNat 0).toNat : Int)), (13, .int .i64 (b.length : Int)), (14, .int .i64 c), (20, .int .u8 ((b.getD c.toNat 0).toNat : Int)), (27, .bool (decide (((b.getD c.toNat 0).toNat : Int) = 62)))] ⟨rfl, rfl, rfl, rfl, rfl, rfl, trivial⟩
                 refine then_normal ?_
                 refine wp_meet (fun a wq => Ag 40 a [(0, .string (Bs b)), (4, .int .u8 ((b.getD c.toNat 0).toNat : Int)), (13, .int .i64 (b.length : Int)), (14, .int .i64 c), (27, .bool ((decide (((b.getD c.toNat 0).toNat : Int) = 62)) || ((decide (((b.getD c.toNat 0).toNat : Int) = 47)) || ((decide (((b.getD c.toNat 0).toNat : Int) = 61)) || (decide (((b.getD c.toNat 0).toNat : Int) = 60))))))] ∧ wq = d) ?_ ?_
                 ·refine wp_cond_split (u.get rfl) (fun hc => ?_) (fun hc => ?_)
                  ·refine wp_skip ?_
                   have bx := u.say (t := 27) rfl (.bool ((decide (((b.getD c.toNat 0).toNat : Int) = 62)) || ((decide (((b.getD c.toNat 0).toNat : Int) = 47)) || ((decide (((b.getD c.toNat 0).toNat : Int) = 61)) || (decide (((b.getD c.toNat 0).toNat : Int) = 60)))))) (by rw [hc]; rfl)
                   exact then_normal ⟨bx.keep [(0, .string (Bs b)), (4, .int .u8 ((b.getD c.toNat 0).toNat : Int)), (13, .int .i64 (b.length : Int)), (14, .int .i64 c), (27, .bool ((decide (((b.getD c.toNat 0).toNat : Int) = 62)) || ((decide (((b.getD c.toNat 0).toNat : Int) = 47)) || ((decide (((b.getD c.toNat 0).toNat : Int) = 61)) || (decide (((b.getD c.toNat 0).toNat : Int) = 60))))))] ⟨rfl, rfl, rfl, rfl, rfl, trivial⟩, rfl⟩
                  ·refine wp_seq (wp_region_lit ?_)
                   refine sqv u rfl (r_eql (u.get rfl) rfl) fun _ aJ => ?_
                   refine sqv aJ rfl (r_assign (aJ.get rfl)) fun _ bz => ?_
                   refine sq_end ?_
                   have v := bz.keep [(0, .string (Bs b)), (4, .int .u8 ((b.getD c.toNat 0).toNat : Int)), (13, .int .i64 (b.length : Int)), (14, .int .i64 c), (20, .int .u8 ((b.getD c.toNat 0).toNat : Int)), (27, .bool (decide (((b.getD c.toNat 0).toNat : Int) = 47)))] ⟨rfl, rfl, rfl, rfl, rfl, rfl, trivial⟩
                   refine then_normal ?_
                   refine wp_meet (fun a wq => Ag 40 a [(0, .string (Bs b)), (4, .int .u8 ((b.getD c.toNat 0).toNat : Int)), (13, .int .i64 (b.length : Int)), (14, .int .i64 c), (27, .bool ((decide (((b.getD c.toNat 0).toNat : Int) = 47)) || ((decide (((b.getD c.toNat 0).toNat : Int) = 61)) || (decide (((b.getD c.toNat 0).toNat : Int) = 60)))))] ∧ wq = d) ?_ ?_
                   ·refine wp_cond_split (v.get rfl) (fun hc => ?_) (fun hc => ?_)
                    ·refine wp_skip ?_
                     have bA := v.say (t := 27) rfl (.bool ((decide (((b.getD c.toNat 0).toNat : Int) = 47)) || ((decide (((b.getD c.toNat 0).toNat : Int) = 61)) || (decide (((b.getD c.toNat 0).toNat : Int) = 60))))) (by rw [hc]; rfl)
                     exact then_normal ⟨bA.keep [(0, .string (Bs b)), (4, .int .u8 ((b.getD c.toNat 0).toNat : Int)), (13, .int .i64 (b.length : Int)), (14, .int .i64 c), (27, .bool ((decide (((b.getD c.toNat 0).toNat : Int) = 47)) || ((decide (((b.getD c.toNat 0).toNat : Int) = 61)) || (decide (((b.getD c.toNat 0).toNat : Int) = 60)))))] ⟨rfl, rfl, rfl, rfl, rfl, trivial⟩, rfl⟩
                    ·refine wp_seq (wp_region_lit ?_)
                     refine sqv v rfl (r_eql (v.get rfl) rfl) fun _ aK => ?_
                     refine sqv aK rfl (r_assign (aK.get rfl)) fun _ bB => ?_
                     refine sq_end ?_
                     have x := bB.keep [(0, .string (Bs b)), (4, .int .u8 ((b.getD c.toNat 0).toNat : Int)), (13, .int .i64 (b.length : Int)), (14, .int .i64 c), (20, .int .u8 ((b.getD c.toNat 0).toNat : Int)), (27, .bool (decide (((b.getD c.toNat 0).toNat : Int) = 61)))] ⟨rfl, rfl, rfl, rfl, rfl, rfl, trivial⟩
                     refine then_normal ?_
                     refine wp_meet (fun a wq => Ag 40 a [(0, .string (Bs b)), (4, .int .u8 ((b.getD c.toNat 0).toNat : Int)), (13, .int .i64 (b.length : Int)), (14, .int .i64 c), (27, .bool ((decide (((b.getD c.toNat 0).toNat : Int) = 61)) || (decide (((b.getD c.toNat 0).toNat : Int) = 60))))] ∧ wq = d) ?_ ?_
                     ·refine wp_cond_split (x.get rfl) (fun hc => ?_) (fun hc => ?_)
                      ·refine wp_skip ?_
                       have bC := x.say (t := 27) rfl (.bool ((decide (((b.getD c.toNat 0).toNat : Int) = 61)) || (decide (((b.getD c.toNat 0).toNat : Int) = 60)))) (by rw [hc]; rfl)
                       exact then_normal ⟨bC.keep [(0, .string (Bs b)), (4, .int .u8 ((b.getD c.toNat 0).toNat : Int)), (13, .int .i64 (b.length : Int)), (14, .int .i64 c), (27, .bool ((decide (((b.getD c.toNat 0).toNat : Int) = 61)) || (decide (((b.getD c.toNat 0).toNat : Int) = 60))))] ⟨rfl, rfl, rfl, rfl, rfl, trivial⟩, rfl⟩
                      ·refine wp_region_lit ?_
                       refine sqv x rfl (r_eql (x.get rfl) rfl) fun _ aL => ?_
                       refine sqv aL rfl (r_assign (aL.get rfl)) fun _ bD => ?_
                       refine sq_end ?_
                       have bF := bD.keep [(0, .string (Bs b)), (4, .int .u8 ((b.getD c.toNat 0).toNat : Int)), (13, .int .i64 (b.length : Int)), (14, .int .i64 c), (27, .bool (decide (((b.getD c.toNat 0).toNat : Int) = 60)))] ⟨rfl, rfl, rfl, rfl, rfl, trivial⟩
                       have bG := bF.say (t := 27) rfl (.bool ((decide (((b.getD c.toNat 0).toNat : Int) = 61)) || (decide (((b.getD c.toNat 0).toNat : Int) = 60)))) (by rw [hc]; rfl)
                       exact then_normal ⟨bG.keep [(0, .string (Bs b)), (4, .int .u8 ((b.getD c.toNat 0).toNat : Int)), (13, .int .i64 (b.length : Int)), (14, .int .i64 c), (27, .bool ((decide (((b.getD c.toNat 0).toNat : Int) = 61)) || (decide (((b.getD c.toNat 0).toNat : Int) = 60))))] ⟨rfl, rfl, rfl, rfl, rfl, trivial⟩, rfl⟩
                     ·rintro cj w_ ⟨bH, hw_⟩
                      have hw_ : d = w_ := hw_.symm
                      subst hw_
                      have bI := bH.say (t := 27) rfl (.bool ((decide (((b.getD c.toNat 0).toNat : Int) = 47)) || ((decide (((b.getD c.toNat 0).toNat : Int) = 61)) || (decide (((b.getD c.toNat 0).toNat : Int) = 60))))) (by rw [hc]; rfl)
                      exact then_normal ⟨bI.keep [(0, .string (Bs b)), (4, .int .u8 ((b.getD c.toNat 0).toNat : Int)), (13, .int .i64 (b.length : Int)), (14, .int .i64 c), (27, .bool ((decide (((b.getD c.toNat 0).toNat : Int) = 47)) || ((decide (((b.getD c.toNat 0).toNat : Int) = 61)) || (decide (((b.getD c.toNat 0).toNat : Int) = 60)))))] ⟨rfl, rfl, rfl, rfl, rfl, trivial⟩, rfl⟩
                   ·rintro ck w_ ⟨bJ, hw_⟩
                    have hw_ : d = w_ := hw_.symm
                    subst hw_
                    have bK := bJ.say (t := 27) rfl (.bool ((decide (((b.getD c.toNat 0).toNat : Int) = 62)) || ((decide (((b.getD c.toNat 0).toNat : Int) = 47)) || ((decide (((b.getD c.toNat 0).toNat : Int) = 61)) || (decide (((b.getD c.toNat 0).toNat : Int) = 60)))))) (by rw [hc]; rfl)
                    exact then_normal ⟨bK.keep [(0, .string (Bs b)), (4, .int .u8 ((b.getD c.toNat 0).toNat : Int)), (13, .int .i64 (b.length : Int)), (14, .int .i64 c), (27, .bool ((decide (((b.getD c.toNat 0).toNat : Int) = 62)) || ((decide (((b.getD c.toNat 0).toNat : Int) = 47)) || ((decide (((b.getD c.toNat 0).toNat : Int) = 61)) || (decide (((b.getD c.toNat 0).toNat : Int) = 60))))))] ⟨rfl, rfl, rfl, rfl, rfl, trivial⟩, rfl⟩
                 ·rintro cl w_ ⟨bL, hw_⟩
                  have hw_ : d = w_ := hw_.symm
                  subst hw_
                  have bM := bL.say (t := 27) rfl (.bool ((decide (((b.getD c.toNat 0).toNat : Int) = 39)) || ((decide (((b.getD c.toNat 0).toNat : Int) = 62)) || ((decide (((b.getD c.toNat 0).toNat : Int) = 47)) || ((decide (((b.getD c.toNat 0).toNat : Int) = 61)) || (decide (((b.getD c.toNat 0).toNat : Int) = 60))))))) (by rw [hc]; rfl)
                  exact then_normal ⟨bM.keep [(0, .string (Bs b)), (4, .int .u8 ((b.getD c.toNat 0).toNat : Int)), (13, .int .i64 (b.length : Int)), (14, .int .i64 c), (27, .bool ((decide (((b.getD c.toNat 0).toNat : Int) = 39)) || ((decide (((b.getD c.toNat 0).toNat : Int) = 62)) || ((decide (((b.getD c.toNat 0).toNat : Int) = 47)) || ((decide (((b.getD c.toNat 0).toNat : Int) = 61)) || (decide (((b.getD c.toNat 0).toNat : Int) = 60)))))))] ⟨rfl, rfl, rfl, rfl, rfl, trivial⟩, rfl⟩
               ·rintro cm w_ ⟨bN, hw_⟩
                have hw_ : d = w_ := hw_.symm
                subst hw_
                have bO := bN.say (t := 27) rfl (.bool ((decide (((b.getD c.toNat 0).toNat : Int) = 34)) || ((decide (((b.getD c.toNat 0).toNat : Int) = 39)) || ((decide (((b.getD c.toNat 0).toNat : Int) = 62)) || ((decide (((b.getD c.toNat 0).toNat : Int) = 47)) || ((decide (((b.getD c.toNat 0).toNat : Int) = 61)) || (decide (((b.getD c.toNat 0).toNat : Int) = 60)))))))) (by rw [hc]; rfl)
                exact then_normal ⟨bO.keep [(0, .string (Bs b)), (4, .int .u8 ((b.getD c.toNat 0).toNat : Int)), (13, .int .i64 (b.length : Int)), (14, .int .i64 c), (27, .bool ((decide (((b.getD c.toNat 0).toNat : Int) = 34)) || ((decide (((b.getD c.toNat 0).toNat : Int) = 39)) || ((decide (((b.getD c.toNat 0).toNat : Int) = 62)) || ((decide (((b.getD c.toNat 0).toNat : Int) = 47)) || ((decide (((b.getD c.toNat 0).toNat : Int) = 61)) || (decide (((b.getD c.toNat 0).toNat : Int) = 60))))))))] ⟨rfl, rfl, rfl, rfl, rfl, trivial⟩, rfl⟩
             ·rintro cn w_ ⟨bP, hw_⟩
              have hw_ : d = w_ := hw_.symm
              subst hw_
              have bQ := bP.say (t := 27) rfl (.bool ((decide (((b.getD c.toNat 0).toNat : Int) = 0)) || ((decide (((b.getD c.toNat 0).toNat : Int) = 34)) || ((decide (((b.getD c.toNat 0).toNat : Int) = 39)) || ((decide (((b.getD c.toNat 0).toNat : Int) = 62)) || ((decide (((b.getD c.toNat 0).toNat : Int) = 47)) || ((decide (((b.getD c.toNat 0).toNat : Int) = 61)) || (decide (((b.getD c.toNat 0).toNat : Int) = 60))))))))) (by rw [hc]; rfl)
              exact then_normal ⟨bQ.keep [(0, .string (Bs b)), (4, .int .u8 ((b.getD c.toNat 0).toNat : Int)), (13, .int .i64 (b.length : Int)), (14, .int .i64 c), (27, .bool ((decide (((b.getD c.toNat 0).toNat : Int) = 0)) || ((decide (((b.getD c.toNat 0).toNat : Int) = 34)) || ((decide (((b.getD c.toNat 0).toNat : Int) = 39)) || ((decide (((b.getD c.toNat 0).toNat : Int) = 62)) || ((decide (((b.getD c.toNat 0).toNat : Int) = 47)) || ((decide (((b.getD c.toNat 0).toNat : Int) = 61)) || (decide (((b.getD c.toNat 0).toNat : Int) = 60)))))))))] ⟨rfl, rfl, rfl, rfl, rfl, trivial⟩, rfl⟩
           ·rintro co w_ ⟨bR, hw_⟩
            have hw_ : d = w_ := hw_.symm
            subst hw_
            have bS := bR.say (t := 27) rfl (.bool ((decide (((b.getD c.toNat 0).toNat : Int) = 32)) || ((decide (((b.getD c.toNat 0).toNat : Int) = 0)) || ((decide (((b.getD c.toNat 0).toNat : Int) = 34)) || ((decide (((b.getD c.toNat 0).toNat : Int) = 39)) || ((decide (((b.getD c.toNat 0).toNat : Int) = 62)) || ((decide (((b.getD c.toNat 0).toNat : Int) = 47)) || ((decide (((b.getD c.toNat 0).toNat : Int) = 61)) || (decide (((b.getD c.toNat 0).toNat : Int) = 60)))))))))) (by rw [hc]; rfl)
            exact then_normal ⟨bS.keep [(0, .string (Bs b)), (4, .int .u8 ((b.getD c.toNat 0).toNat : Int)), (13, .int .i64 (b.length : Int)), (14, .int .i64 c), (27, .bool ((decide (((b.getD c.toNat 0).toNat : Int) = 32)) || ((decide (((b.getD c.toNat 0).toNat : Int) = 0)) || ((decide (((b.getD c.toNat 0).toNat : Int) = 34)) || ((decide (((b.getD c.toNat 0).toNat : Int) = 39)) || ((decide (((b.getD c.toNat 0).toNat : Int) = 62)) || ((decide (((b.getD c.toNat 0).toNat : Int) = 47)) || ((decide (((b.getD c.toNat 0).toNat : Int) = 61)) || (decide (((b.getD c.toNat 0).toNat : Int) = 60))))))))))] ⟨rfl, rfl, rfl, rfl, rfl, trivial⟩, rfl⟩
         ·rintro cp w_ ⟨bT, hw_⟩
          have hw_ : d = w_ := hw_.symm
          subst hw_
          have bU := bT.say (t := 27) rfl (.bool ((decide (((b.getD c.toNat 0).toNat : Int) = 12)) || ((decide (((b.getD c.toNat 0).toNat : Int) = 32)) || ((decide (((b.getD c.toNat 0).toNat : Int) = 0)) || ((decide (((b.getD c.toNat 0).toNat : Int) = 34)) || ((decide (((b.getD c.toNat 0).toNat : Int) = 39)) || ((decide (((b.getD c.toNat 0).toNat : Int) = 62)) || ((decide (((b.getD c.toNat 0).toNat : Int) = 47)) || ((decide (((b.getD c.toNat 0).toNat : Int) = 61)) || (decide (((b.getD c.toNat 0).toNat : Int) = 60))))))))))) (by rw [hc]; rfl)
          exact then_normal ⟨bU.keep [(0, .string (Bs b)), (4, .int .u8 ((b.getD c.toNat 0).toNat : Int)), (13, .int .i64 (b.length : Int)), (14, .int .i64 c), (27, .bool ((decide (((b.getD c.toNat 0).toNat : Int) = 12)) || ((decide (((b.getD c.toNat 0).toNat : Int) = 32)) || ((decide (((b.getD c.toNat 0).toNat : Int) = 0)) || ((decide (((b.getD c.toNat 0).toNat : Int) = 34)) || ((decide (((b.getD c.toNat 0).toNat : Int) = 39)) || ((decide (((b.getD c.toNat 0).toNat : Int) = 62)) || ((decide (((b.getD c.toNat 0).toNat : Int) = 47)) || ((decide (((b.getD c.toNat 0).toNat : Int) = 61)) || (decide (((b.getD c.toNat 0).toNat : Int) = 60)))))))))))] ⟨rfl, rfl, rfl, rfl, rfl, trivial⟩, rfl⟩
       ·rintro cq w_ ⟨bV, hw_⟩
        have hw_ : d = w_ := hw_.symm
        subst hw_
        have bX := bV.say (t := 27) rfl (.bool ((decide (((b.getD c.toNat 0).toNat : Int) = 10)) || ((decide (((b.getD c.toNat 0).toNat : Int) = 12)) || ((decide (((b.getD c.toNat 0).toNat : Int) = 32)) || ((decide (((b.getD c.toNat 0).toNat : Int) = 0)) || ((decide (((b.getD c.toNat 0).toNat : Int) = 34)) || ((decide (((b.getD c.toNat 0).toNat : Int) = 39)) || ((decide (((b.getD c.toNat 0).toNat : Int) = 62)) || ((decide (((b.getD c.toNat 0).toNat : Int) = 47)) || ((decide (((b.getD c.toNat 0).toNat : Int) = 61)) || (decide (((b.getD c.toNat 0).toNat : Int) = 60)))))))))))) (by rw [hc]; rfl)
        exact then_normal ⟨bX.keep [(0, .string (Bs b)), (4, .int .u8 ((b.getD c.toNat 0).toNat : Int)), (13, .int .i64 (b.length : Int)), (14, .int .i64 c), (27, .bool ((decide (((b.getD c.toNat 0).toNat : Int) = 10)) || ((decide (((b.getD c.toNat 0).toNat : Int) = 12)) || ((decide (((b.getD c.toNat 0).toNat : Int) = 32)) || ((decide (((b.getD c.toNat 0).toNat : Int) = 0)) || ((decide (((b.getD c.toNat 0).toNat : Int) = 34)) || ((decide (((b.getD c.toNat 0).toNat : Int) = 39)) || ((decide (((b.getD c.toNat 0).toNat : Int) = 62)) || ((decide (((b.getD c.toNat 0).toNat : Int) = 47)) || ((decide (((b.getD c.toNat 0).toNat : Int) = 61)) || (decide (((b.getD c.toNat 0).toNat : Int) = 60))))))))))))] ⟨rfl, rfl, rfl, rfl, rfl, trivial⟩, rfl⟩
     ·rintro cr w_ ⟨bY, hw_⟩
      have hw_ : d = w_ := hw_.symm
      subst hw_
      have bZ := bY.say (t := 27) rfl (.bool ((decide (((b.getD c.toNat 0).toNat : Int) = 9)) || ((decide (((b.getD c.toNat 0).toNat : Int) = 10)) || ((decide (((b.getD c.toNat 0).toNat : Int) = 12)) || ((decide (((b.getD c.toNat 0).toNat : Int) = 32)) || ((decide (((b.getD c.toNat 0).toNat : Int) = 0)) || ((decide (((b.getD c.toNat 0).toNat : Int) = 34)) || ((decide (((b.getD c.toNat 0).toNat : Int) = 39)) || ((decide (((b.getD c.toNat 0).toNat : Int) = 62)) || ((decide (((b.getD c.toNat 0).toNat : Int) = 47)) || ((decide (((b.getD c.toNat 0).toNat : Int) = 61)) || (decide (((b.getD c.toNat 0).toNat : Int) = 60))))))))))))) (by rw [hc]; rfl)
      exact then_normal ⟨bZ.keep [(0, .string (Bs b)), (4, .int .u8 ((b.getD c.toNat 0).toNat : Int)), (13, .int .i64 (b.length : Int)), (14, .int .i64 c), (27, .bool ((decide (((b.getD c.toNat 0).toNat : Int) = 9)) || ((decide (((b.getD c.toNat 0).toNat : Int) = 10)) || ((decide (((b.getD c.toNat 0).toNat : Int) = 12)) || ((decide (((b.getD c.toNat 0).toNat : Int) = 32)) || ((decide (((b.getD c.toNat 0).toNat : Int) = 0)) || ((decide (((b.getD c.toNat 0).toNat : Int) = 34)) || ((decide (((b.getD c.toNat 0).toNat : Int) = 39)) || ((decide (((b.getD c.toNat 0).toNat : Int) = 62)) || ((decide (((b.getD c.toNat 0).toNat : Int) = 47)) || ((decide (((b.getD c.toNat 0).toNat : Int) = 61)) || (decide (((b.getD c.toNat 0).toNat : Int) = 60)))))))))))))] ⟨rfl, rfl, rfl, rfl, rfl, trivial⟩, rfl⟩
   ·rintro cs w_ ⟨y, hw_⟩
    have hw_ : d = w_ := hw_.symm
    subst hw_
    refine then_normal ?_
    refine wp_cond_split (y.get rfl) (fun hc => ?_) (fun hc => ?_)
    ·have b0 := av.1 ((b_or_t hc).imp (fun h => (of_decide_eq_true h)) (fun h => ((b_or_t h).imp (fun h => (of_decide_eq_true h)) (fun h => ((b_or_t h).imp (fun h => (of_decide_eq_true h)) (fun h => ((b_or_t h).imp (fun h => (of_decide_eq_true h)) (fun h => ((b_or_t h).imp (fun h => (of_decide_eq_true h)) (fun h => ((b_or_t h).imp (fun h => (of_decide_eq_true h)) (fun h => ((b_or_t h).imp (fun h => (of_decide_eq_true h)) (fun h => ((b_or_t h).imp (fun h => (of_decide_eq_true h)) (fun h => ((b_or_t h).imp (fun h => (of_decide_eq_true h)) (fun h => ((b_or_t h).imp (fun h => (of_decide_eq_true h)) (fun h => (of_decide_eq_true h)))))))))))))))))))))
     clear hc
     refine wp_seq (wp_region_lit ?_)
     refine sqv y rfl (r_assign rfl) fun _ b1 => ?_
     refine sq_end ?_
     have aM := b1.keep [(2, .bool false)] ⟨rfl, trivial⟩
     refine then_normal ?_
     refine wp_ret ?_
     refine block_ret ?_
     refine block_ret ?_
     refine then_ret ?_
     refine then_ret ?_
     refine block_ret ?_
     refine then_ret ?_
     exact res_all (vs := [.bool false]) rfl aM ⟨res_of_tmp aM rfl, trivial⟩ b0
    ·have aN := av.2 ⟨(of_decide_eq_false (b_or_f hc).1), ⟨(of_decide_eq_false (b_or_f (b_or_f hc).2).1), ⟨(of_decide_eq_false (b_or_f (b_or_f (b_or_f hc).2).2).1), ⟨(of_decide_eq_false (b_or_f (b_or_f (b_or_f (b_or_f hc).2).2).2).1), ⟨(of_decide_eq_false (b_or_f (b_or_f (b_or_f (b_or_f (b_or_f hc).2).2).2).2).1), ⟨(of_decide_eq_false (b_or_f (b_or_f (b_or_f (b_or_f (b_or_f (b_or_f hc).2).2).2).2).2).1), ⟨(of_decide_eq_false (b_or_f (b_or_f (b_or_f (b_or_f (b_or_f (b_or_f (b_or_f hc).2).2).2).2).2).2).1), ⟨(of_decide_eq_false (b_or_f (b_or_f (b_or_f (b_or_f (b_or_f (b_or_f (b_or_f (b_or_f hc).2).2).2).2).2).2).2).1), ⟨(of_decide_eq_false (b_or_f (b_or_f (b_or_f (b_or_f (b_or_f (b_or_f (b_or_f (b_or_f (b_or_f hc).2).2).2).2).2).2).2).2).1), ⟨(of_decide_eq_false (b_or_f (b_or_f (b_or_f (b_or_f (b_or_f (b_or_f (b_or_f (b_or_f (b_or_f (b_or_f hc).2).2).2).2).2).2).2).2).2).1), (of_decide_eq_false (b_or_f (b_or_f (b_or_f (b_or_f (b_or_f (b_or_f (b_or_f (b_or_f (b_or_f (b_or_f hc).2).2).2).2).2).2).2).2).2).2)⟩⟩⟩⟩⟩⟩⟩⟩⟩⟩
     clear hc
     refine wp_seq (wp_region_lit ?_)
     refine sqv y rfl (r_move (y.get rfl)) fun _ aO => ?_
     refine sqv aO rfl (r_geq (aO.get rfl) rfl) fun _ aP => ?_
     refine sqv aP rfl (r_move (aP.get rfl)) fun _ aQ => ?_
     refine sq (opk_gval aQ rfl rfl (g := true) (e := (decide (65 ≤ ((b.getD c.toNat 0).toNat : Int)))) rfl (fun hg => r_move (aQ.get rfl)) fun ct aR _ => ?_)
     refine sq (opk_gval aR rfl rfl (g := true) (e := (decide (65 ≤ ((b.getD c.toNat 0).toNat : Int)))) rfl (fun hg => r_leq (cv_get (aR.get rfl) hg) rfl) fun cu ag _ => ?_)
     refine sqv ag rfl (r_pick_and (g := (true && ((decide (65 ≤ ((b.getD c.toNat 0).toNat : Int))) == true))) (ag.get rfl) (ag.get rfl) (fun he => g_mkt rfl he)) fun _ b2 => ?_
     refine sq_end ?_
     have z := b2.keep [(0, .string (Bs b)), (13, .int .i64 (b.length : Int)), (14, .int .i64 c), (26, .bool ((decide (65 ≤ ((b.getD c.toNat 0).toNat : Int))) && (decide (((b.getD c.toNat 0).toNat : Int) ≤ 90))))] ⟨rfl, rfl, rfl, rfl, trivial⟩
     refine then_normal ?_
     refine wp_cond_split (z.get rfl) (fun hc => ?_) (fun hc => ?_)
     ·have b3 := aN.1 ⟨(of_decide_eq_true (b_and_t hc).1), (of_decide_eq_true (b_and_t hc).2)⟩
      clear hc
      refine wp_seq (wp_region_lit ?_)
      refine sqv z rfl (r_assign rfl) fun _ b4 => ?_
      refine sq_end ?_
      have aS := b4.keep [(2, .bool false)] ⟨rfl, trivial⟩
      refine then_normal ?_
      refine wp_ret ?_
      refine block_ret ?_
      refine block_ret ?_
      refine then_ret ?_
      refine then_ret ?_
      refine block_ret ?_
      refine then_ret ?_
      exact res_all (vs := [.bool false]) rfl aS ⟨res_of_tmp aS rfl, trivial⟩ b3
     ·have b5 := aN.2 ((b_and_f hc).imp (fun h => (of_decide_eq_false h)) (fun h => (of_decide_eq_false h)))
      clear hc
      refine wp_skip ?_
      refine block_normal ?_
      refine block_normal ?_
      refine then_normal (wp_region_lit ?_)
      obtain ⟨b6, aT⟩ := b5
      refine sqv z rfl (r_addI (z.get rfl) rfl b6) fun _ aU => ?_
      refine sqv aU rfl (r_move (aU.get rfl)) fun _ b7 => ?_
      refine sq_end ?_
      have b8 := b7.keep [(0, .string (Bs b)), (13, .int .i64 (b.length : Int)), (14, .int .i64 (c + 1))] ⟨rfl, rfl, rfl, trivial⟩
      have b9 := b8.keep [(0, .string (Bs b)), (13, .int .i64 (b.length : Int)), (14, .int .i64 (c + 1))] ⟨rfl, rfl, rfl, trivial⟩
      exact then_normal ⟨(c + 1, d), ⟨b9, rfl, aT.1⟩, aT.2⟩
  ·have ca := ap.2 (of_decide_eq_false hc)
   clear hc
   refine wp_exit ?_
   refine then_exit ?_
   refine then_exit ?_
   refine block_hit ?_
   have cb := k.keep [] trivial
   refine then_normal (wp_seq (wp_region_lit ?_))
   refine sqv cb rfl (r_assign rfl) fun _ cc => ?_
   refine sq_end ?_
   have aV := cc.keep [(2, .bool true)] ⟨rfl, trivial⟩
   refine then_normal ?_
   refine wp_ret ?_
   exact res_all (vs := [.bool true]) rfl aV ⟨res_of_tmp aV rfl, trivial⟩ ca
def tree_empty.vc (b : Sl) (R : Value → World → Prop) (w : World) : Prop :=
∃ (g : Int → World → Prop) (i : Int → World → Nat),
g 0 w ∧
(∀ (c : Int) (d : World), g c d →
((c < (b.n : Int)) →
((0 : Int) ≤ c ∧ c < (b.n : Int)) ∧ ∃ k : Addr, b.a = some k ∧
∃ (f : Str), (d.cell? (k.add (c.toNat * 1)) = some (.string (Bs f))) ∧
((f ≠ ([] : Str)) →
R (.bool false) d) ∧
((¬ (f ≠ ([] : Str))) →
(I64 (c + 1)) ∧
g (c + 1) d ∧ i (c + 1) d < i c d)) ∧
((¬ (c < (b.n : Int))) →
R (.bool true) d))
theorem tree_empty.ok (b : Sl) {R : Value → World → Prop} {w : World} (m : tree_empty.vc b R w) : Calls Try.prog 62 #[Sl.v b] w (Ret R) := by
 refine enter [Sl.v b] Try.func62 rfl Try.ntmps62 rfl ?_
 intro a0 af
 unfold tree_empty.vc at m
 refine wp_seq (wp_region_lit ?_)
 refine sqv af rfl (r_assign rfl) fun _ ag => ?_
 refine sq_end ?_
 have o := ag.keep [(0, Sl.v b)] ⟨rfl, trivial⟩
 refine then_normal (wp_seq (wp_seq (wp_region_lit ?_)))
 refine sqv o rfl (r_move (o.get rfl)) fun _ p => ?_
 refine sqv p rfl (r_len (p.get rfl) Try.underlying109) fun _ ah => ?_
 refine sqv ah rfl (r_move rfl) fun _ ai => ?_
 refine sq_end ?_
 have aj := ai.keep [(5, Sl.v b), (6, .int .i64 (b.n : Int)), (7, .int .i64 0)] ⟨rfl, rfl, rfl, trivial⟩
 refine then_normal (wp_block ?_)
 obtain ⟨g, i, ak, al⟩ := m
 refine wp_loop_st (σ := Int × World) (fun s a w => Ag 14 a [(5, Sl.v b), (6, .int .i64 (b.n : Int)), (7, .int .i64 s.1)] ∧ w = s.2 ∧ g s.1 s.2) (fun s => i s.1 s.2) (0, w) ⟨aj.keep [(5, Sl.v b), (6, .int .i64 (b.n : Int)), (7, .int .i64 0)] ⟨rfl, rfl, rfl, trivial⟩, rfl, ak⟩ ?_
 rintro ⟨c, d⟩ aK w_ ⟨l, hw_, am⟩
 have hw_ : d = w_ := hw_.symm
 subst hw_
 have q := al c _ am
 refine wp_seq (wp_region_lit ?_)
 refine sqv l rfl (r_lss (l.get rfl) (l.get rfl)) fun _ an => ?_
 refine sq_end ?_
 have h := an.keep [(5, Sl.v b), (6, .int .i64 (b.n : Int)), (7, .int .i64 c), (8, .bool (decide (c < (b.n : Int))))] ⟨rfl, rfl, rfl, rfl, trivial⟩
 refine then_normal (wp_seq ?_)
 refine wp_cond_split (h.get rfl) (fun hc => ?_) (fun hc => ?_)
 ·have ao := q.1 (of_decide_eq_true hc)
  clear hc
  refine wp_skip ?_
  refine then_normal (wp_seq (wp_block (wp_seq (wp_region_lit ?_))))
  obtain ⟨ap, k, aq, ar⟩ := ao
  refine sqv h rfl (r_indexAddr (h.get rfl) (h.get rfl) Try.underlying109 ti_9 ap aq) fun _ r => ?_
  obtain ⟨f, au, t⟩ := ar
  refine sqv r rfl (r_load1 Try.underlying9 rfl (r.get rfl) au) fun _ u => ?_
  refine sqv u rfl (r_assign (u.get rfl)) fun _ av => ?_
  refine sq_end ?_
  have x := av.keep [(4, .string (Bs f)), (5, Sl.v b), (6, .int .i64 (b.n : Int)), (7, .int .i64 c)] ⟨rfl, rfl, rfl, rfl, trivial⟩
  refine then_normal (wp_seq (wp_region_lit ?_))
  refine sqv x rfl (r_move (x.get rfl)) fun _ y => ?_
  refine sqv y rfl (r_sneq (y.get rfl) rfl) fun _ ax => ?_
  refine sq_end ?_
  have j := ax.keep [(5, Sl.v b), (6, .int .i64 (b.n : Int)), (7, .int .i64 c), (12, .bool (decide (f ≠ ([] : Str))))] ⟨rfl, rfl, rfl, rfl, trivial⟩
  refine then_normal ?_
  refine wp_cond_split (j.get rfl) (fun hc => ?_) (fun hc => ?_)
  ·have ay := t.1 (of_decide_eq_true hc)
   clear hc
   refine wp_seq (wp_region_lit ?_)
   refine sqv j rfl (r_assign rfl) fun _ az => ?_
   refine sq_end ?_
   have z := az.keep [(2, .bool false)] ⟨rfl, trivial⟩
   refine then_normal ?_
   refine wp_ret ?_
   refine block_ret ?_
   refine then_ret ?_
   refine then_ret ?_
   refine block_ret ?_
   refine then_ret ?_
   exact res_all (vs := [.bool false]) rfl z ⟨res_of_tmp z rfl, trivial⟩ ay
  ·have aA := t.2 (of_decide_eq_false hc)
   clear hc
   refine wp_skip ?_
   refine block_normal ?_
   refine then_normal (wp_region_lit ?_)
   obtain ⟨aB, aa⟩ := aA
   refine sqv j rfl (r_addI (j.get rfl) rfl aB) fun _ ab => ?_
   refine sqv ab rfl (r_move (ab.get rfl)) fun _ aC => ?_
   refine sq_end ?_
   have aD := aC.keep [(5, Sl.v b), (6, .int .i64 (b.n : Int)), (7, .int .i64 (c + 1))] ⟨rfl, rfl, rfl, trivial⟩
   have aF := aD.keep [(5, Sl.v b), (6, .int .i64 (b.n : Int)), (7, .int .i64 (c + 1))] ⟨rfl, rfl, rfl, trivial⟩
   exact then_normal ⟨(c + 1, d), ⟨aF, rfl, aa.1⟩, aa.2⟩
 ·have aG := q.2 (of_decide_eq_false hc)
  clear hc
  refine wp_exit ?_
  refine then_exit ?_
  refine then_exit ?_
  refine block_hit ?_
  have aH := h.keep [] trivial
  refine then_normal (wp_seq (wp_region_lit ?_))
  refine sqv aH rfl (r_assign rfl) fun _ aI => ?_
  refine sq_end ?_
  have ad := aI.keep [(2, .bool true)] ⟨rfl, trivial⟩
  refine then_normal ?_
  refine wp_ret ?_
  exact res_all (vs := [.bool true]) rfl ad ⟨res_of_tmp ad rfl, trivial⟩ aG
end Go.Proofs.Ytghmgfkdnolcdaa
