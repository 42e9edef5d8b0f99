/-
  PRINTED BY PROGRAM: for each function its condition (vc), and that this suffices (ok).
-/
import Derived.Test.YtnmpenfpajfoaaaDoorGT
namespace Go.Proofs.YtnmpenfpajfoaaaDoor
open Go.RowKit
set_option linter.unusedVariables false

/-- The condition of topiary/topiarylaw12.awake. -/
def law12_awake.vc  (R : Value → World → Prop) (w : World) : Prop :=
∀ (w4 : World) (B_3 : Nat), New w B_3 w4 → Chg [] w w4 →
∀ (_ : Box w4 B_3 9 [.string (Bs ([104, 116, 109, 108] : Str)), .string (Bs ([98, 111, 100, 121] : Str)), .string (Bs ([112] : Str)), .string (Bs ([98, 117, 116, 116, 111, 110] : Str))]),
CallK Tryd.prog 14 #[Sl.v (Sl.mk (some ⟨B_3, 0, none⟩) 4 4), .string (Bs ([112] : Str)), .int .i64 3] w4 [] (fun v w18 => ∃ (r_16 : Bool), v = .bool r_16 ∧
∃ (r_27 : Bool), (((r_16 = false)) → Calls Tryd.prog 14 #[Sl.v (Sl.mk (some ⟨B_3, 0, none⟩) 4 4), .string (Bs ([112] : Str)), .int .i64 1] w18 (Ret fun v w' => Ext w18 w' ∧ v = .bool r_27)) ∧
(∀ w29 : World, Ext w18 w29 →
∃ (r_37 : Bool), ((((r_16 = false) ∧ (r_27 = true))) → Calls Tryd.prog 9 #[.string (Bs ([98, 114] : Str)), .int .i64 1] w29 (Ret fun v w' => Ext w29 w' ∧ v = .bool r_37)) ∧
(∀ w39 : World, Ext w29 w39 →
∃ (r_47 : Bool), (((((r_16 = false) ∧ (r_27 = true)) ∧ (r_37 = true))) → Calls Tryd.prog 9 #[.string (Bs ([98] : Str)), .int .i64 1] w39 (Ret fun v w' => Ext w39 w' ∧ v = .bool r_47)) ∧
(∀ w49 : World, Ext w39 w49 →
R (.bool ((((!r_16) && r_27) && r_37) && (!r_47))) w49))))
set_option maxHeartbeats 1000000 in
set_option maxRecDepth 10000 in
theorem law12_awake.ok  {R : Value → World → Prop} {w : World} (ht0 : law12_awake.vc  R w) : Calls Tryd.prog 11 #[] w (Ret R) := by
  refine enter [] Tryd.func11 rfl Tryd.ntmps11 rfl ?_
  intro a0 hA0
  unfold law12_awake.vc at ht0
  refine wp_seq ?_
  refine wp_region_lit ?_
  refine sq (opk_val hA0 rfl (r_assign rfl) fun a1 hA1 _ => ?_)
  refine sq_end ?_
  have hA2 := hA1.keep [] trivial
  refine then_normal ?_
  refine wp_seq ?_
  refine wp_region_lit ?_
  refine sq (opk_new (fun B => .slice (some ⟨B, 0, none⟩) 4 4) hA2 rfl (r_buildSlice (vs := #[(0, .string (Bs ([104, 116, 109, 108] : Str))), (1, .string (Bs ([98, 111, 100, 121] : Str))), (2, .string (Bs ([112] : Str))), (3, .string (Bs ([98, 117, 116, 116, 111, 110] : Str)))]) (cs := [.string (Bs ([104, 116, 109, 108] : Str)), .string (Bs ([98, 111, 100, 121] : Str)), .string (Bs ([112] : Str)), .string (Bs ([98, 117, 116, 116, 111, 110] : Str))]) (map_arr2 (ml2_cons rfl (ml2_cons rfl (ml2_cons rfl (ml2_cons rfl (ml2_nil)))))) Tryd.underlying22 ti_9 rfl rfl (by kernel_rfl)) fun a5 w4 B_3 hE6 hN7 hB8 hA5 _ => ?_)
  have hN9 : New w B_3 w4 := hN7
  have hC10 : Chg [] w w4 := hE6
  refine sq (opk_val hA5 rfl (r_assign (hA5.get rfl)) fun a11 hA11 _ => ?_)
  refine sq_end ?_
  have hA12 := hA11.keep [(1, Sl.v (Sl.mk (some ⟨B_3, 0, none⟩) 4 4))] ⟨rfl, trivial⟩
  refine then_normal ?_
  refine wp_seq ?_
  refine wp_region_lit ?_
  refine sq (opk_val hA12 rfl (r_move (hA12.get rfl)) fun a13 hA13 _ => ?_)
  have ht14 := ht0 w4 B_3 hN9  hC10
  have ht15 := ht14 hB8
  refine sq (opk_call hA13 rfl (r_call (args := #[Sl.v (Sl.mk (some ⟨B_3, 0, none⟩) 4 4), .string (Bs ([112] : Str)), .int .i64 3]) Tryd.func14 (by decide) rfl (map_arr (ml_cons (hA13.get rfl) (ml_cons rfl (ml_cons rfl ml_nil)))) rfl) ht15 fun a17 v23 w18 hA17 _ hn20 hz21 hK22 => ?_)
  obtain ⟨r_16, rfl, ht19⟩ := hK22
  refine sq (opk_val hA17 rfl (r_not (hA17.get rfl)) fun a24 hA24 _ => ?_)
  refine sq (opk_val hA24 rfl (r_move (hA24.get rfl)) fun a25 hA25 _ => ?_)
  refine sq (opk_gval hA25 rfl rfl (g := true) (e := (!r_16)) rfl (fun hg => r_move (hA25.get rfl)) fun a26 hA26 _ => ?_)
  obtain ⟨r_27, hc31, ht30⟩ := ht19
  refine sq (opk_gcall hA26 rfl rfl (g := true) (e := (!r_16)) rfl (fun hg => r_call (args := #[Sl.v (Sl.mk (some ⟨B_3, 0, none⟩) 4 4), .string (Bs ([112] : Str)), .int .i64 1]) Tryd.func14 (by decide) rfl (map_arr (ml_cons (cv_get (hA26.get rfl) hg) (ml_cons rfl (ml_cons rfl ml_nil)))) rfl) (fun hg => hc31 (b_not_t (g_t hg))) fun a28 w29 hA28 _ hE32 => ?_)
  have hC33 : Chg [] w18 w29 := hE32
  have ht34 := ht30 w29 hE32
  refine sq (opk_val hA28 rfl (r_pick_and (g := (true && ((!r_16) == true))) (hA28.get rfl) (hA28.get rfl) (fun he => g_mkt rfl he)) fun a35 hA35 _ => ?_)
  refine sq (opk_val hA35 rfl (r_move (hA35.get rfl)) fun a36 hA36 _ => ?_)
  obtain ⟨r_37, hc41, ht40⟩ := ht34
  refine sq (opk_gcall hA36 rfl rfl (g := true) (e := ((!r_16) && r_27)) rfl (fun hg => r_call (args := #[.string (Bs ([98, 114] : Str)), .int .i64 1]) Tryd.func9 (by decide) rfl (map_arr (ml_cons rfl (ml_cons rfl ml_nil))) rfl) (fun hg => hc41 ⟨(b_not_t (b_and_t (g_t hg)).1), (b_and_t (g_t hg)).2⟩) fun a38 w39 hA38 _ hE42 => ?_)
  have hC43 : Chg [] w29 w39 := hE42
  have ht44 := ht40 w39 hE42
  refine sq (opk_val hA38 rfl (r_pick_and (g := (true && (((!r_16) && r_27) == true))) (hA38.get rfl) (hA38.get rfl) (fun he => g_mkt rfl he)) fun a45 hA45 _ => ?_)
  refine sq (opk_val hA45 rfl (r_move (hA45.get rfl)) fun a46 hA46 _ => ?_)
  obtain ⟨r_47, hc51, ht50⟩ := ht44
  refine sq (opk_gcall hA46 rfl rfl (g := true) (e := (((!r_16) && r_27) && r_37)) rfl (fun hg => r_call (args := #[.string (Bs ([98] : Str)), .int .i64 1]) Tryd.func9 (by decide) rfl (map_arr (ml_cons rfl (ml_cons rfl ml_nil))) rfl) (fun hg => hc51 ⟨⟨(b_not_t (b_and_t (b_and_t (g_t hg)).1).1), (b_and_t (b_and_t (g_t hg)).1).2⟩, (b_and_t (g_t hg)).2⟩) fun a48 w49 hA48 _ hE52 => ?_)
  have hC53 : Chg [] w39 w49 := hE52
  have ht54 := ht50 w49 hE52
  refine sq (opk_gval hA48 rfl rfl (g := true) (e := (((!r_16) && r_27) && r_37)) rfl (fun hg => r_not (cv_get (hA48.get rfl) hg)) fun a55 hA55 _ => ?_)
  refine sq (opk_val hA55 rfl (r_pick_and (g := (true && ((((!r_16) && r_27) && r_37) == true))) (hA55.get rfl) (hA55.get rfl) (fun he => g_mkt rfl he)) fun a56 hA56 _ => ?_)
  refine sq (opk_val hA56 rfl (r_assign (hA56.get rfl)) fun a57 hA57 _ => ?_)
  refine sq_end ?_
  have hA58 := hA57.keep [(0, .bool ((((!r_16) && r_27) && r_37) && (!r_47)))] ⟨rfl, trivial⟩
  refine then_normal ?_
  refine wp_ret ?_
  exact res_all (vs := [.bool ((((!r_16) && r_27) && r_37) && (!r_47))]) rfl hA58 ⟨res_of_tmp hA58 rfl, trivial⟩ ht54

end Go.Proofs.YtnmpenfpajfoaaaDoor
