/-
  PRINTED BY PROGRAM: for each function its condition (vc), and that this suffices (ok).
-/
import Derived.Test.YtghmgfkdnolcdaaQDomEmptiesGT
namespace Go.Proofs.Ytghmgfkdnolcdaa
open Go.RowKit
set_option linter.unusedVariables false

/-- The condition of (*topiary/dom.Dom).out.1. -/
def dom_Dom_out_1.vc (k_1 : Int) (x_2 : Addr) (R : Value → World → Prop) (w : World) : Prop :=
∃ (x_7 : Int), (w.cell? x_2 = some (.int .i64 x_7)) ∧
R (.bool (decide (k_1 = x_7))) w
set_option maxHeartbeats 1000000 in
set_option maxRecDepth 10000 in
theorem dom_Dom_out_1.ok (k_1 : Int) (x_2 : Addr) {R : Value → World → Prop} {w : World} (ht0 : dom_Dom_out_1.vc k_1 x_2 R w) : Calls Try.prog 82 #[.int .i64 k_1, .pointer (some x_2)] w (Ret R) := by
  refine enter [.int .i64 k_1, .pointer (some x_2)] Try.func82 rfl Try.ntmps82 rfl ?_
  intro a0 hA0
  unfold dom_Dom_out_1.vc at ht0
  refine wp_seq ?_
  refine wp_region_lit ?_
  refine sq (opk_val hA0 rfl (r_assign rfl) fun a3 hA3 _ => ?_)
  refine sq_end ?_
  have hA4 := hA3.keep [(0, .int .i64 k_1), (1, .pointer (some x_2))] ⟨rfl, rfl, trivial⟩
  refine then_normal ?_
  refine wp_seq ?_
  refine wp_region_lit ?_
  refine sq (opk_val hA4 rfl (r_move (hA4.get rfl)) fun a5 hA5 _ => ?_)
  obtain ⟨x_7, hx8, ht9⟩ := ht0
  refine sq (opk_val hA5 rfl (r_load1 Try.underlying3 rfl (hA5.get rfl) hx8) fun a6 hA6 _ => ?_)
  refine sq (opk_val hA6 rfl (r_eql (hA6.get rfl) (hA6.get rfl)) fun a10 hA10 _ => ?_)
  refine sq (opk_val hA10 rfl (r_assign (hA10.get rfl)) fun a11 hA11 _ => ?_)
  refine sq_end ?_
  have hA12 := hA11.keep [(3, .bool (decide (k_1 = x_7)))] ⟨rfl, trivial⟩
  refine then_normal ?_
  refine wp_ret ?_
  exact res_all (vs := [.bool (decide (k_1 = x_7))]) rfl hA12 ⟨res_of_tmp hA12 rfl, trivial⟩ ht9

end Go.Proofs.Ytghmgfkdnolcdaa
