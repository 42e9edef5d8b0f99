/-
  PRINTED BY PROGRAM: for each function its condition (vc), and that this suffices (ok).
-/
import Derived.Test.YteacalmdpoblpaaQCodecAllGT
namespace Go.Proofs.Yteacalmdpoblpaa
open Go.RowKit
set_option linter.unusedVariables false

/-- The condition of topiary/topiarylaw24.awake. -/
def law24_awake.vc  (R : Value → World → Prop) (w : World) : Prop :=
CallK Try.prog 10 #[.int .u64 1, .int .u64 2, Sl.v Sl.nil] w [] (fun v w6 => ∃ (r_0_3 : Sl) (r_1_4 : Int), v = .tuple #[Sl.v r_0_3, .int .i64 r_1_4] ∧
CallK Try.prog 13 #[Sl.v r_0_3] w6 [] (fun v w24 => ∃ (r_0_19 : Int) (r_1_20 : Int) (r_2_21 : Sl) (r_3_22 : Int), v = .tuple #[.int .u64 r_0_19, .int .u64 r_1_20, Sl.v r_2_21, .int .i64 r_3_22] ∧
R (.bool ((((((decide (r_1_4 = 0)) && (decide ((r_0_3.n : Int) = 26))) && (decide (r_3_22 = 0))) && (decide (r_0_19 = 1))) && (decide (r_1_20 = 2))) && (decide ((r_2_21.n : Int) = 0)))) w24))
set_option maxHeartbeats 1000000 in
set_option maxRecDepth 10000 in
theorem law24_awake.ok  {R : Value → World → Prop} {w : World} (ht0 : law24_awake.vc  R w) : Calls Try.prog 9 #[] w (Ret R) := by
  refine enter [] Try.func9 rfl Try.ntmps9 rfl ?_
  intro a0 hA0
  unfold law24_awake.vc at ht0
  refine wp_seq ?_
  refine wp_region_lit ?_
  refine sq (opk_val hA0 rfl (r_assign rfl) fun a1 hA1 _ => ?_)
  refine sq_end ?_
  have hA2 := hA1.keep [] trivial
  refine then_normal ?_
  refine wp_seq ?_
  refine wp_region_lit ?_
  refine sq (opk_call hA2 rfl (r_call (args := #[.int .u64 1, .int .u64 2, Sl.v Sl.nil]) Try.func10 (by decide) rfl (map_arr (ml_cons rfl (ml_cons rfl (ml_cons rfl ml_nil)))) rfl) ht0 fun a5 v11 w6 hA5 _ hn8 hz9 hK10 => ?_)
  obtain ⟨r_0_3, r_1_4, rfl, ht7⟩ := hK10
  refine sq (opk_val hA5 rfl (r_move (hA5.get rfl)) fun a12 hA12 _ => ?_)
  refine sq (opk_val hA12 rfl (r_extract (hA12.get rfl) rfl) fun a13 hA13 _ => ?_)
  refine sq (opk_val hA13 rfl (r_extract (hA13.get rfl) rfl) fun a14 hA14 _ => ?_)
  refine sq (opk_val hA14 rfl (r_assign (hA14.get rfl)) fun a15 hA15 _ => ?_)
  refine sq (opk_val hA15 rfl (r_assign (hA15.get rfl)) fun a16 hA16 _ => ?_)
  refine sq_end ?_
  have hA17 := hA16.keep [(1, Sl.v r_0_3), (2, .int .i64 r_1_4)] ⟨rfl, rfl, trivial⟩
  refine then_normal ?_
  refine wp_seq ?_
  refine wp_region_lit ?_
  refine sq (opk_val hA17 rfl (r_move (hA17.get rfl)) fun a18 hA18 _ => ?_)
  refine sq (opk_call hA18 rfl (r_call (args := #[Sl.v r_0_3]) Try.func13 (by decide) rfl (map_arr (ml_cons (hA18.get rfl) ml_nil)) rfl) ht7 fun a23 v29 w24 hA23 _ hn26 hz27 hK28 => ?_)
  obtain ⟨r_0_19, r_1_20, r_2_21, r_3_22, rfl, ht25⟩ := hK28
  refine sq (opk_val hA23 rfl (r_move (hA23.get rfl)) fun a30 hA30 _ => ?_)
  refine sq (opk_val hA30 rfl (r_extract (hA30.get rfl) rfl) fun a31 hA31 _ => ?_)
  refine sq (opk_val hA31 rfl (r_extract (hA31.get rfl) rfl) fun a32 hA32 _ => ?_)
  refine sq (opk_val hA32 rfl (r_extract (hA32.get rfl) rfl) fun a33 hA33 _ => ?_)
  refine sq (opk_val hA33 rfl (r_extract (hA33.get rfl) rfl) fun a34 hA34 _ => ?_)
  refine sq (opk_val hA34 rfl (r_assign (hA34.get rfl)) fun a35 hA35 _ => ?_)
  refine sq (opk_val hA35 rfl (r_assign (hA35.get rfl)) fun a36 hA36 _ => ?_)
  refine sq (opk_val hA36 rfl (r_assign (hA36.get rfl)) fun a37 hA37 _ => ?_)
  refine sq (opk_val hA37 rfl (r_assign (hA37.get rfl)) fun a38 hA38 _ => ?_)
  refine sq_end ?_
  have hA39 := hA38.keep [(1, Sl.v r_0_3), (2, .int .i64 r_1_4), (3, .int .u64 r_0_19), (4, .int .u64 r_1_20), (5, Sl.v r_2_21), (6, .int .i64 r_3_22)] ⟨rfl, rfl, rfl, rfl, rfl, rfl, trivial⟩
  refine then_normal ?_
  refine wp_seq ?_
  refine wp_region_lit ?_
  refine sq (opk_val hA39 rfl (r_move (hA39.get rfl)) fun a40 hA40 _ => ?_)
  refine sq (opk_val hA40 rfl (r_eql (hA40.get rfl) rfl) fun a41 hA41 _ => ?_)
  refine sq (opk_val hA41 rfl (r_move (hA41.get rfl)) fun a42 hA42 _ => ?_)
  refine sq (opk_gval hA42 rfl rfl (g := true) (e := (decide (r_1_4 = 0))) rfl (fun hg => r_move (hA42.get rfl)) fun a43 hA43 _ => ?_)
  refine sq (opk_gval hA43 rfl rfl (g := true) (e := (decide (r_1_4 = 0))) rfl (fun hg => r_len (cv_get (hA43.get rfl) hg) Try.underlying24) fun a44 hA44 _ => ?_)
  refine sq (opk_gval hA44 rfl rfl (g := true) (e := (decide (r_1_4 = 0))) rfl (fun hg => r_eql (cv_get (hA44.get rfl) hg) rfl) fun a45 hA45 _ => ?_)
  refine sq (opk_val hA45 rfl (r_pick_and (g := (true && ((decide (r_1_4 = 0)) == true))) (hA45.get rfl) (hA45.get rfl) (fun he => g_mkt rfl he)) fun a46 hA46 _ => ?_)
  refine sq (opk_val hA46 rfl (r_move (hA46.get rfl)) fun a47 hA47 _ => ?_)
  refine sq (opk_gval hA47 rfl rfl (g := true) (e := ((decide (r_1_4 = 0)) && (decide ((r_0_3.n : Int) = 26)))) rfl (fun hg => r_move (hA47.get rfl)) fun a48 hA48 _ => ?_)
  refine sq (opk_gval hA48 rfl rfl (g := true) (e := ((decide (r_1_4 = 0)) && (decide ((r_0_3.n : Int) = 26)))) rfl (fun hg => r_eql (cv_get (hA48.get rfl) hg) rfl) fun a49 hA49 _ => ?_)
  refine sq (opk_val hA49 rfl (r_pick_and (g := (true && (((decide (r_1_4 = 0)) && (decide ((r_0_3.n : Int) = 26))) == true))) (hA49.get rfl) (hA49.get rfl) (fun he => g_mkt rfl he)) fun a50 hA50 _ => ?_)
  refine sq (opk_val hA50 rfl (r_move (hA50.get rfl)) fun a51 hA51 _ => ?_)
  refine sq (opk_gval hA51 rfl rfl (g := true) (e := (((decide (r_1_4 = 0)) && (decide ((r_0_3.n : Int) = 26))) && (decide (r_3_22 = 0)))) rfl (fun hg => r_move (hA51.get rfl)) fun a52 hA52 _ => ?_)
  refine sq (opk_gval hA52 rfl rfl (g := true) (e := (((decide (r_1_4 = 0)) && (decide ((r_0_3.n : Int) = 26))) && (decide (r_3_22 = 0)))) rfl (fun hg => r_eql (cv_get (hA52.get rfl) hg) rfl) fun a53 hA53 _ => ?_)
  refine sq (opk_val hA53 rfl (r_pick_and (g := (true && ((((decide (r_1_4 = 0)) && (decide ((r_0_3.n : Int) = 26))) && (decide (r_3_22 = 0))) == true))) (hA53.get rfl) (hA53.get rfl) (fun he => g_mkt rfl he)) fun a54 hA54 _ => ?_)
  refine sq (opk_val hA54 rfl (r_move (hA54.get rfl)) fun a55 hA55 _ => ?_)
  refine sq (opk_gval hA55 rfl rfl (g := true) (e := ((((decide (r_1_4 = 0)) && (decide ((r_0_3.n : Int) = 26))) && (decide (r_3_22 = 0))) && (decide (r_0_19 = 1)))) rfl (fun hg => r_move (hA55.get rfl)) fun a56 hA56 _ => ?_)
  refine sq (opk_gval hA56 rfl rfl (g := true) (e := ((((decide (r_1_4 = 0)) && (decide ((r_0_3.n : Int) = 26))) && (decide (r_3_22 = 0))) && (decide (r_0_19 = 1)))) rfl (fun hg => r_eql (cv_get (hA56.get rfl) hg) rfl) fun a57 hA57 _ => ?_)
  refine sq (opk_val hA57 rfl (r_pick_and (g := (true && (((((decide (r_1_4 = 0)) && (decide ((r_0_3.n : Int) = 26))) && (decide (r_3_22 = 0))) && (decide (r_0_19 = 1))) == true))) (hA57.get rfl) (hA57.get rfl) (fun he => g_mkt rfl he)) fun a58 hA58 _ => ?_)
  refine sq (opk_val hA58 rfl (r_move (hA58.get rfl)) fun a59 hA59 _ => ?_)
  refine sq (opk_gval hA59 rfl rfl (g := true) (e := (((((decide (r_1_4 = 0)) && (decide ((r_0_3.n : Int) = 26))) && (decide (r_3_22 = 0))) && (decide (r_0_19 = 1))) && (decide (r_1_20 = 2)))) rfl (fun hg => r_move (hA59.get rfl)) fun a60 hA60 _ => ?_)
  refine sq (opk_gval hA60 rfl rfl (g := true) (e := (((((decide (r_1_4 = 0)) && (decide ((r_0_3.n : Int) = 26))) && (decide (r_3_22 = 0))) && (decide (r_0_19 = 1))) && (decide (r_1_20 = 2)))) rfl (fun hg => r_len (cv_get (hA60.get rfl) hg) Try.underlying23) fun a61 hA61 _ => ?_)
  refine sq (opk_gval hA61 rfl rfl (g := true) (e := (((((decide (r_1_4 = 0)) && (decide ((r_0_3.n : Int) = 26))) && (decide (r_3_22 = 0))) && (decide (r_0_19 = 1))) && (decide (r_1_20 = 2)))) rfl (fun hg => r_eql (cv_get (hA61.get rfl) hg) rfl) fun a62 hA62 _ => ?_)
  refine sq (opk_val hA62 rfl (r_pick_and (g := (true && ((((((decide (r_1_4 = 0)) && (decide ((r_0_3.n : Int) = 26))) && (decide (r_3_22 = 0))) && (decide (r_0_19 = 1))) && (decide (r_1_20 = 2))) == true))) (hA62.get rfl) (hA62.get rfl) (fun he => g_mkt rfl he)) fun a63 hA63 _ => ?_)
  refine sq (opk_val hA63 rfl (r_assign (hA63.get rfl)) fun a64 hA64 _ => ?_)
  refine sq_end ?_
  have hA65 := hA64.keep [(0, .bool ((((((decide (r_1_4 = 0)) && (decide ((r_0_3.n : Int) = 26))) && (decide (r_3_22 = 0))) && (decide (r_0_19 = 1))) && (decide (r_1_20 = 2))) && (decide ((r_2_21.n : Int) = 0))))] ⟨rfl, trivial⟩
  refine then_normal ?_
  refine wp_ret ?_
  exact res_all (vs := [.bool ((((((decide (r_1_4 = 0)) && (decide ((r_0_3.n : Int) = 26))) && (decide (r_3_22 = 0))) && (decide (r_0_19 = 1))) && (decide (r_1_20 = 2))) && (decide ((r_2_21.n : Int) = 0)))]) rfl hA65 ⟨res_of_tmp hA65 rfl, trivial⟩ ht25

end Go.Proofs.Yteacalmdpoblpaa
