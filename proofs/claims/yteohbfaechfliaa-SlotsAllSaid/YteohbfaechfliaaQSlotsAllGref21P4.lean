/-
  PRINTED BY PROGRAM: for each function its condition (vc), and that this suffices (ok).
-/
import Derived.Test.YteohbfaechfliaaQSlotsAllGT
namespace Go.Proofs.Yteohbfaechfliaa
open Go.RowKit
set_option linter.unusedVariables false
set_option maxHeartbeats 1000000
set_option maxRecDepth 10000
def ref21_kin.vc (a : Int) (c : Str) (j : Str) (k : Sl) (l : Sl) (b : Int) (d : Str) (m : Str) (n : Sl) (o : Sl) (R : Value → World → Prop) (w : World) : Prop :=
∀ (h : World) (f : Nat) (i : Nat), New w f h → New w i h → f ≠ i → Chg [] w h →
R (.bool ((decide (a = b)) && (decide (c = d)))) h
theorem ref21_kin.ok (a : Int) (c : Str) (j : Str) (k : Sl) (l : Sl) (b : Int) (d : Str) (m : Str) (n : Sl) (o : Sl) {R : Value → World → Prop} {w : World} (t : ref21_kin.vc a c j k l b d m n o R w) : Calls Try.prog 58 #[.agg #[.int .i64 a, .string (Bs c), .string (Bs j), Sl.v k, Sl.v l], .agg #[.int .i64 b, .string (Bs d), .string (Bs m), Sl.v n, Sl.v o]] w (Ret R) := by
 refine enter [.agg #[.int .i64 a, .string (Bs c), .string (Bs j), Sl.v k, Sl.v l], .agg #[.int .i64 b, .string (Bs d), .string (Bs m), Sl.v n, Sl.v o]] Try.func58 rfl Try.ntmps58 rfl ?_
 intro a0 u
 unfold ref21_kin.vc at t
 refine wp_seq (wp_region_lit ?_)
 refine sq (opk_new (fun B => .pointer (some ⟨B, 0, none⟩)) u rfl (r_box (cs := [.int .i64 a, .string (Bs c), .string (Bs j), Sl.v k, Sl.v l]) (u.get rfl) rfl) fun a5 x f ar au y z _ => ?_)
 have av : New w f x := au
 have aa : Chg [] w x := ar
 refine sq (opk_new (fun B => .pointer (some ⟨B, 0, none⟩)) z rfl (r_box (cs := [.int .i64 b, .string (Bs d), .string (Bs m), Sl.v n, Sl.v o]) (z.get rfl) rfl) fun aI h i p ab ad ax _ => ?_)
 have ay : f ≠ i := Nat.ne_of_lt (Nat.lt_of_lt_of_le y.lt ab.ge)
 have az := New.of aa ab
 have af := y.ext p
 have aA := aa.more p
 have aB := av.up p.size
 refine sqv ax rfl (r_assign rfl) fun _ aC => sq_end ?_
 have ag := aC.kp [(2, pB f 0), (3, pB i 0)] rfl
 refine then_normal (wp_seq (wp_region_lit ?_))
 refine sqv ag rfl (r_fieldAddr (ag.get rfl) Try.underlying26 rfl ti_3 (by decide)) fun _ ah => sqv ah rfl (r_load1 tU3 rfl (ah.get rfl) (af.cell 0 _ rfl)) fun _ ai => sqv ai rfl (r_fieldAddr (ai.get rfl) Try.underlying26 rfl ti_3 (by decide)) fun _ aj => sqv aj rfl (r_load1 tU3 rfl (aj.get rfl) (ad.cell 0 _ rfl)) fun _ q => sqv q rfl (r_eql (q.get rfl) (q.get rfl)) fun _ ak => sqv ak rfl (r_move (ak.get rfl)) fun _ al => ?_
 refine sq (opk_gval al rfl rfl (g := true) (e := (decide (a = b))) rfl (fun hg => r_fieldAddr (al.get rfl) Try.underlying26 rfl ti_9 (by decide)) fun aJ am _ => ?_)
 refine sq (opk_gval am rfl rfl (g := true) (e := (decide (a = b))) rfl (fun hg => r_load1 tU9 rfl (cv_get (am.get rfl) hg) (af.cell 1 _ rfl)) fun aK an _ => ?_)
 refine sq (opk_gval an rfl rfl (g := true) (e := (decide (a = b))) rfl (fun hg => r_fieldAddr (an.get rfl) Try.underlying26 rfl ti_9 (by decide)) fun aL ao _ => ?_)
 refine sq (opk_gval ao rfl rfl (g := true) (e := (decide (a = b))) rfl (fun hg => r_load1 tU9 rfl (cv_get (ao.get rfl) hg) (ad.cell 1 _ rfl)) fun aM r _ => ?_)
 refine sq (opk_gval r rfl rfl (g := true) (e := (decide (a = b))) rfl (fun hg => r_seql (cv_get (r.get rfl) hg) (cv_get (r.get rfl) hg)) fun aN s _ => ?_)
 refine sqv s rfl (r_pick_and (g := (true && ((decide (a = b)) == true))) (s.get rfl) (s.get rfl) (fun he => g_mkt rfl he)) fun _ ap => sqv ap rfl (r_assign (ap.get rfl)) fun _ aD => sq_end ?_
 have aq := aD.kp [(4, .bool ((decide (a = b)) && (decide (c = d))))] rfl
 refine then_normal ?_
 refine wp_ret ?_
 have aF := t h f i aB az ay aA
 exact res_all (vs := [.bool ((decide (a = b)) && (decide (c = d)))]) rfl aq ⟨res_of_tmp aq rfl, trivial⟩ aF
end Go.Proofs.Yteohbfaechfliaa
