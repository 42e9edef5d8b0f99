/-
  PRINTED BY PROGRAM: for each function its condition (vc), and that this suffices (ok).
-/
import Derived.Test.YtpacegmmbabhjaaGT
namespace Go.Proofs.Ytpacegmmbabhjaa
open Go.RowKit
set_option linter.unusedVariables false

/-- The condition of topiary/topiaryref04.Blank. -/
def ref04_Blank.vc (c_1 : Int) (R : Value → World → Prop) (w : World) : Prop :=
R (.bool ((((decide (c_1 = 9)) || (decide (c_1 = 10))) || (decide (c_1 = 12))) || (decide (c_1 = 32)))) w
set_option maxHeartbeats 1000000 in
set_option maxRecDepth 10000 in
theorem ref04_Blank.ok (c_1 : Int) {R : Value → World → Prop} {w : World} (ht0 : ref04_Blank.vc c_1 R w) : Calls Try.prog 44 #[.int .u8 c_1] w (Ret R) := by
  refine enter [.int .u8 c_1] Try.func44 rfl Try.ntmps44 rfl ?_
  intro a0 hA0
  unfold ref04_Blank.vc at ht0
  refine wp_seq ?_
  refine wp_region_lit ?_
  refine sq (opk_val hA0 rfl (r_assign rfl) fun a2 hA2 _ => ?_)
  refine sq_end ?_
  have hA3 := hA2.keep [(0, .int .u8 c_1)] ⟨rfl, trivial⟩
  refine then_normal ?_
  refine wp_seq ?_
  refine wp_region_lit ?_
  refine sq (opk_val hA3 rfl (r_move (hA3.get rfl)) fun a4 hA4 _ => ?_)
  refine sq (opk_val hA4 rfl (r_eql (hA4.get rfl) rfl) fun a5 hA5 _ => ?_)
  refine sq (opk_val hA5 rfl (r_move (hA5.get rfl)) fun a6 hA6 _ => ?_)
  refine sq (opk_gval hA6 rfl rfl (g := true) (e := (decide (c_1 = 9))) rfl (fun hg => r_move (hA6.get rfl)) fun a7 hA7 _ => ?_)
  refine sq (opk_gval hA7 rfl rfl (g := true) (e := (decide (c_1 = 9))) rfl (fun hg => r_eql (cv_get (hA7.get rfl) hg) rfl) fun a8 hA8 _ => ?_)
  refine sq (opk_val hA8 rfl (r_pick_or (g := (true && ((decide (c_1 = 9)) == false))) (hA8.get rfl) (hA8.get rfl) (fun he => g_mkf rfl he)) fun a9 hA9 _ => ?_)
  refine sq (opk_val hA9 rfl (r_move (hA9.get rfl)) fun a10 hA10 _ => ?_)
  refine sq (opk_gval hA10 rfl rfl (g := true) (e := ((decide (c_1 = 9)) || (decide (c_1 = 10)))) rfl (fun hg => r_move (hA10.get rfl)) fun a11 hA11 _ => ?_)
  refine sq (opk_gval hA11 rfl rfl (g := true) (e := ((decide (c_1 = 9)) || (decide (c_1 = 10)))) rfl (fun hg => r_eql (cv_get (hA11.get rfl) hg) rfl) fun a12 hA12 _ => ?_)
  refine sq (opk_val hA12 rfl (r_pick_or (g := (true && (((decide (c_1 = 9)) || (decide (c_1 = 10))) == false))) (hA12.get rfl) (hA12.get rfl) (fun he => g_mkf rfl he)) fun a13 hA13 _ => ?_)
  refine sq (opk_val hA13 rfl (r_move (hA13.get rfl)) fun a14 hA14 _ => ?_)
  refine sq (opk_gval hA14 rfl rfl (g := true) (e := (((decide (c_1 = 9)) || (decide (c_1 = 10))) || (decide (c_1 = 12)))) rfl (fun hg => r_move (hA14.get rfl)) fun a15 hA15 _ => ?_)
  refine sq (opk_gval hA15 rfl rfl (g := true) (e := (((decide (c_1 = 9)) || (decide (c_1 = 10))) || (decide (c_1 = 12)))) rfl (fun hg => r_eql (cv_get (hA15.get rfl) hg) rfl) fun a16 hA16 _ => ?_)
  refine sq (opk_val hA16 rfl (r_pick_or (g := (true && ((((decide (c_1 = 9)) || (decide (c_1 = 10))) || (decide (c_1 = 12))) == false))) (hA16.get rfl) (hA16.get rfl) (fun he => g_mkf rfl he)) fun a17 hA17 _ => ?_)
  refine sq (opk_val hA17 rfl (r_assign (hA17.get rfl)) fun a18 hA18 _ => ?_)
  refine sq_end ?_
  have hA19 := hA18.keep [(2, .bool ((((decide (c_1 = 9)) || (decide (c_1 = 10))) || (decide (c_1 = 12))) || (decide (c_1 = 32))))] ⟨rfl, trivial⟩
  refine then_normal ?_
  refine wp_ret ?_
  exact res_all (vs := [.bool ((((decide (c_1 = 9)) || (decide (c_1 = 10))) || (decide (c_1 = 12))) || (decide (c_1 = 32)))]) rfl hA19 ⟨res_of_tmp hA19 rfl, trivial⟩ ht0

end Go.Proofs.Ytpacegmmbabhjaa
