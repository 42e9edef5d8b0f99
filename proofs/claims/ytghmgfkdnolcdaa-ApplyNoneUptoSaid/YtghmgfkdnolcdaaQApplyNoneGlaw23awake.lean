/-
  PRINTED BY PROGRAM: for each function its condition (vc), and that this suffices (ok).
-/
import Derived.Test.YtghmgfkdnolcdaaQApplyNoneGT
namespace Go.Proofs.Ytghmgfkdnolcdaa
open Go.RowKit
set_option linter.unusedVariables false
set_option maxHeartbeats 1000000
set_option maxRecDepth 10000
def law23_awake.vc  (R : Value → World → Prop) (w : World) : Prop :=
∀ (f : World) (i : Nat), New w i f → Chg [] w f →
∀ (_ : Box f i 48 [.int .i64 2, .int .i64 0, .int .i64 0, .int .i64 0, .int .i64 0, .string (Bs ([] : Str)), .string (Bs ([] : Str))]),
CallK Try.prog 38 #[.agg #[.int .i64 1, .string (Bs ([] : Str)), .string (Bs ([] : Str)), Sl.v Sl.nil, Sl.v Sl.nil], Sl.v (Sl.mk (some ⟨i, 0, none⟩) 1 1)] f [] (fun v j => ∃ (k : Int) (l : Str) (m : Str) (n : Sl) (o : Sl) (b : Int) (a : Int), v = .tuple #[.agg #[.int .i64 k, .string (Bs l), .string (Bs m), Sl.v n, Sl.v o], .int .i64 b, .int .i64 a] ∧
∀ (d : World) (p : Nat), New j p d → Chg [] j d →
∃ (c : Bool), ((((a = 4) ∧ (b = 0))) → Calls Try.prog 65 #[.agg #[.int .i64 2, .int .i64 0, .int .i64 0, .int .i64 0, .int .i64 0, .string (Bs ([] : Str)), .string (Bs ([] : Str))]] d (Ret fun v w' => Ext d w' ∧ v = .bool c)) ∧
(∀ h : World, Ext d h →
∃ (q : Bool), (((((a = 4) ∧ (b = 0)) ∧ (c = true))) → Calls Try.prog 65 #[.agg #[.int .i64 2, .int .i64 0, .int .i64 0, .int .i64 0, .int .i64 0, .string (Bs ([] : Str)), .string (Bs ([97] : Str))]] h (Ret fun v w' => Ext h w' ∧ v = .bool q)) ∧
(∀ r : World, Ext h r →
R (.bool ((((decide (a = 4)) && (decide (b = 0))) && c) && (!q))) r)))
theorem law23_awake.ok  {R : Value → World → Prop} {w : World} (z : law23_awake.vc  R w) : Calls Try.prog 37 #[] w (Ret R) := by
 refine enter [] Try.func37 rfl Try.ntmps37 rfl ?_
 intro a0 aF
 unfold law23_awake.vc at z
 refine wp_seq (wp_region_lit ?_)
 refine sqv aF rfl (r_assign rfl) fun _ aG => ?_
 refine sq_end ?_
 have aH := aG.keep [] trivial
 refine then_normal (wp_seq (wp_region_lit ?_))
 refine sqv aH rfl (r_build (vs := #[(0, .int .i64 1)]) (cells := #[.int .i64 1, .string (Bs ([] : Str)), .string (Bs ([] : Str)), Sl.v Sl.nil, Sl.v Sl.nil]) (map_arr2 (ml2_cons rfl (ml2_nil))) ti_29 Try.underlying29 pl_29 (by kernel_rfl)) fun _ aI => ?_
 refine sqv aI rfl (r_build (vs := #[(0, .int .i64 2)]) (cells := #[.int .i64 2, .int .i64 0, .int .i64 0, .int .i64 0, .int .i64 0, .string (Bs ([] : Str)), .string (Bs ([] : Str))]) (map_arr2 (ml2_cons rfl (ml2_nil))) ti_48 Try.underlying48 pl_48 (by kernel_rfl)) fun _ aa => ?_
 refine sq (opk_new (fun B => .slice (some ⟨B, 0, none⟩) 1 1) aa rfl (r_buildSlice (vs := #[(0, .agg #[.int .i64 2, .int .i64 0, .int .i64 0, .int .i64 0, .int .i64 0, .string (Bs ([] : Str)), .string (Bs ([] : Str))])]) (cs := [.int .i64 2, .int .i64 0, .int .i64 0, .int .i64 0, .int .i64 0, .string (Bs ([] : Str)), .string (Bs ([] : Str))]) (map_arr2 (ml2_cons (aa.get rfl) (ml2_nil))) Try.underlying46 ti_48 rfl rfl (by kernel_rfl)) fun a7 f i aJ aK aL s _ => ?_)
 have aM : New w i f := aK
 have aN : Chg [] w f := aJ
 have aO := z f i aM  aN
 have aP := aO aL
 refine sq (opk_call s rfl (r_call (args := #[.agg #[.int .i64 1, .string (Bs ([] : Str)), .string (Bs ([] : Str)), Sl.v Sl.nil, Sl.v Sl.nil], Sl.v (Sl.mk (some ⟨i, 0, none⟩) 1 1)]) Try.func38 (by decide) rfl (map_arr (ml_cons (s.get rfl) (ml_cons (s.get rfl) ml_nil))) rfl) aP fun bf bg j ab _ bh bi aQ => ?_)
 obtain ⟨k, l, m, n, o, b, a, rfl, aR⟩ := aQ
 refine sqv ab rfl (r_move (ab.get rfl)) fun _ ad => ?_
 refine sqv ad rfl (r_extract (ad.get rfl) rfl) fun _ af => ?_
 refine sqv af rfl (r_extract (af.get rfl) rfl) fun _ ag => ?_
 refine sqv ag rfl (r_extract (ag.get rfl) rfl) fun _ aS => ?_
 refine sq (opk_new (fun B => .pointer (some ⟨B, 0, none⟩)) aS rfl (r_alloc (cs := [.int .i64 0, .string (Bs ([] : Str)), .string (Bs ([] : Str)), Sl.v Sl.nil, Sl.v Sl.nil]) ti_29 rfl) fun bj ah p aT aU ai t _ => ?_)
 have aj : New j p ah := aU
 have aV : Chg [] j ah := aT
 refine sq (opk_store t ai (r_store (vs := [.int .i64 k, .string (Bs l), .string (Bs m), Sl.v n, Sl.v o]) (t.get rfl) (t.get rfl) rfl ti_29 ai rfl (ones_all [.int .i64 k, .string (Bs l), .string (Bs m), Sl.v n, Sl.v o] rfl)) fun bk d ak aX al => ?_)
 have bl : Box d p 29 [.int .i64 k, .string (Bs l), .string (Bs m), Sl.v n, Sl.v o] := aX
 have aY := aV.storeNew aj ak
 have aZ := aj.up ak.size
 refine sqv al rfl (r_assign (al.get rfl)) fun _ am => ?_
 refine sqv am rfl (r_assign (am.get rfl)) fun _ hA45 => ?_
 refine sq_end ?_
 have an := hA45.keep [(2, .int .i64 b), (3, .int .i64 a)] ⟨rfl, rfl, trivial⟩
 refine then_normal (wp_seq (wp_region_lit ?_))
 refine sqv an rfl (r_move (an.get rfl)) fun _ ao => ?_
 refine sqv ao rfl (r_eql (ao.get rfl) rfl) fun _ ap => ?_
 refine sqv ap rfl (r_move (ap.get rfl)) fun _ aq => ?_
 refine sq (opk_gval aq rfl rfl (g := true) (e := (decide (a = 4))) rfl (fun hg => r_move (aq.get rfl)) fun bm ar _ => ?_)
 refine sq (opk_gval ar rfl rfl (g := true) (e := (decide (a = 4))) rfl (fun hg => r_eql (cv_get (ar.get rfl) hg) rfl) fun bn u _ => ?_)
 refine sqv u rfl (r_pick_and (g := (true && ((decide (a = 4)) == true))) (u.get rfl) (u.get rfl) (fun he => g_mkt rfl he)) fun _ au => ?_
 refine sqv au rfl (r_move (au.get rfl)) fun _ a1 => ?_
 refine sq (opk_gval a1 rfl rfl (g := true) (e := ((decide (a = 4)) && (decide (b = 0)))) rfl (fun hg => r_build (vs := #[(0, .int .i64 2)]) (cells := #[.int .i64 2, .int .i64 0, .int .i64 0, .int .i64 0, .int .i64 0, .string (Bs ([] : Str)), .string (Bs ([] : Str))]) (map_arr2 (ml2_cons rfl (ml2_nil))) ti_48 Try.underlying48 pl_48 (by kernel_rfl)) fun bo av _ => ?_)
 have a2 := aR d p aZ  aY
 obtain ⟨c, a3, a4⟩ := a2
 refine sq (opk_gcall av rfl rfl (g := true) (e := ((decide (a = 4)) && (decide (b = 0)))) rfl (fun hg => r_call (args := #[.agg #[.int .i64 2, .int .i64 0, .int .i64 0, .int .i64 0, .int .i64 0, .string (Bs ([] : Str)), .string (Bs ([] : Str))]]) Try.func65 (by decide) rfl (map_arr (ml_cons (cv_get (av.get rfl) hg) ml_nil)) rfl) (fun hg => a3 ⟨(of_decide_eq_true (b_and_t (g_t hg)).1), (of_decide_eq_true (b_and_t (g_t hg)).2)⟩) fun bp h x _ ax => ?_)
 have bq : Chg [] d h := ax
 have a5 := a4 h ax
 refine sqv x rfl (r_pick_and (g := (true && (((decide (a = 4)) && (decide (b = 0))) == true))) (x.get rfl) (x.get rfl) (fun he => g_mkt rfl he)) fun _ ay => ?_
 refine sqv ay rfl (r_move (ay.get rfl)) fun _ a6 => ?_
 refine sq (opk_gval a6 rfl rfl (g := true) (e := (((decide (a = 4)) && (decide (b = 0))) && c)) rfl (fun hg => r_build (vs := #[(0, .int .i64 2), (6, .string (Bs ([97] : Str)))]) (cells := #[.int .i64 2, .int .i64 0, .int .i64 0, .int .i64 0, .int .i64 0, .string (Bs ([] : Str)), .string (Bs ([97] : Str))]) (map_arr2 (ml2_cons rfl (ml2_cons rfl (ml2_nil)))) ti_48 Try.underlying48 pl_48 (by kernel_rfl)) fun br az _ => ?_)
 obtain ⟨q, hc71, a8⟩ := a5
 refine sq (opk_gcall az rfl rfl (g := true) (e := (((decide (a = 4)) && (decide (b = 0))) && c)) rfl (fun hg => r_call (args := #[.agg #[.int .i64 2, .int .i64 0, .int .i64 0, .int .i64 0, .int .i64 0, .string (Bs ([] : Str)), .string (Bs ([97] : Str))]]) Try.func65 (by decide) rfl (map_arr (ml_cons (cv_get (az.get rfl) hg) ml_nil)) rfl) (fun hg => hc71 ⟨⟨(of_decide_eq_true (b_and_t (b_and_t (g_t hg)).1).1), (of_decide_eq_true (b_and_t (b_and_t (g_t hg)).1).2)⟩, (b_and_t (g_t hg)).2⟩) fun bs r aA _ aB => ?_)
 have bt : Chg [] h r := aB
 have a9 := a8 r aB
 refine sq (opk_gval aA rfl rfl (g := true) (e := (((decide (a = 4)) && (decide (b = 0))) && c)) rfl (fun hg => r_not (cv_get (aA.get rfl) hg)) fun bu y _ => ?_)
 refine sqv y rfl (r_pick_and (g := (true && ((((decide (a = 4)) && (decide (b = 0))) && c) == true))) (y.get rfl) (y.get rfl) (fun he => g_mkt rfl he)) fun _ aC => ?_
 refine sqv aC rfl (r_assign (aC.get rfl)) fun _ ba => ?_
 refine sq_end ?_
 have aD := ba.keep [(0, .bool ((((decide (a = 4)) && (decide (b = 0))) && c) && (!q)))] ⟨rfl, trivial⟩
 refine then_normal ?_
 refine wp_ret ?_
 exact res_all (vs := [.bool ((((decide (a = 4)) && (decide (b = 0))) && c) && (!q))]) rfl aD ⟨res_of_tmp aD rfl, trivial⟩ a9
end Go.Proofs.Ytghmgfkdnolcdaa
