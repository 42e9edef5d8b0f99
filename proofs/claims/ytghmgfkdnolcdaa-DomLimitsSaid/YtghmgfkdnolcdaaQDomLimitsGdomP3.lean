/-
  PRINTED BY PROGRAM: for each function its condition (vc), and that this suffices (ok).
-/
import Derived.Test.YtghmgfkdnolcdaaQDomLimitsGT
namespace Go.Proofs.Ytghmgfkdnolcdaa
open Go.RowKit
set_option linter.unusedVariables false

/-- The condition of (*topiary/dom.node).attr.1. -/
def dom_node_attr_1.vc (a_1_Name : Str) (a_1_Value : Str) (name_2 : Str) (R : Value → World → Prop) (w : World) : Prop :=
∀ (w4 : World) (B_3 : Nat), New w B_3 w4 → Chg [] w w4 →
CallK Try.prog 78 #[.string (Bs a_1_Name), .string (Bs name_2)] w4 [B_3] (fun v w19 => ∃ (r_17 : Int), v = .int .i64 r_17 ∧
R (.int .i64 r_17) w19)
set_option maxHeartbeats 1000000 in
set_option maxRecDepth 10000 in
theorem dom_node_attr_1.ok (a_1_Name : Str) (a_1_Value : Str) (name_2 : Str) {R : Value → World → Prop} {w : World} (ht0 : dom_node_attr_1.vc a_1_Name a_1_Value name_2 R w) : Calls Try.prog 77 #[.agg #[.string (Bs a_1_Name), .string (Bs a_1_Value)], .string (Bs name_2)] w (Ret R) := by
  refine enter [.agg #[.string (Bs a_1_Name), .string (Bs a_1_Value)], .string (Bs name_2)] Try.func77 rfl Try.ntmps77 rfl ?_
  intro a0 hA0
  unfold dom_node_attr_1.vc at ht0
  refine wp_seq ?_
  refine wp_region_lit ?_
  refine sq (opk_new (fun B => .pointer (some ⟨B, 0, none⟩)) hA0 rfl (r_box (cs := [.string (Bs a_1_Name), .string (Bs a_1_Value)]) (hA0.get rfl) rfl) fun a5 w4 B_3 hE6 hN7 hB8 hA5 _ => ?_)
  have hN9 : New w B_3 w4 := hN7
  have hC10 : Chg [] w w4 := hE6
  refine sq (opk_val hA5 rfl (r_assign rfl) fun a11 hA11 _ => ?_)
  refine sq_end ?_
  have hA12 := hA11.keep [(1, .string (Bs name_2)), (2, .pointer (some (⟨B_3, 0, none⟩ : Addr)))] ⟨rfl, rfl, trivial⟩
  refine then_normal ?_
  refine wp_seq ?_
  refine wp_region_lit ?_
  refine sq (opk_val hA12 rfl (r_fieldAddr (hA12.get rfl) Try.underlying65 rfl ti_9 (by decide)) fun a13 hA13 _ => ?_)
  refine sq (opk_val hA13 rfl (r_load1 Try.underlying9 rfl (hA13.get rfl) (hB8.cell 0 _ rfl)) fun a14 hA14 _ => ?_)
  refine sq (opk_val hA14 rfl (r_move (hA14.get rfl)) fun a15 hA15 _ => ?_)
  have ht16 := ht0 w4 B_3 hN9  hC10
  refine sq (opk_call hA15 rfl (r_call (args := #[.string (Bs a_1_Name), .string (Bs name_2)]) Try.func78 (by decide) rfl (map_arr (ml_cons (hA15.get rfl) (ml_cons (hA15.get rfl) ml_nil))) rfl) ht16 fun a18 v24 w19 hA18 _ hn21 hz22 hK23 => ?_)
  obtain ⟨r_17, rfl, ht20⟩ := hK23
  have hB25 := hB8.kept hn21 (.head _)
  refine sq (opk_val hA18 rfl (r_assign (hA18.get rfl)) fun a26 hA26 _ => ?_)
  refine sq_end ?_
  have hA27 := hA26.keep [(4, .int .i64 r_17)] ⟨rfl, trivial⟩
  refine then_normal ?_
  refine wp_ret ?_
  exact res_all (vs := [.int .i64 r_17]) rfl hA27 ⟨res_of_tmp hA27 rfl, trivial⟩ ht20

end Go.Proofs.Ytghmgfkdnolcdaa
