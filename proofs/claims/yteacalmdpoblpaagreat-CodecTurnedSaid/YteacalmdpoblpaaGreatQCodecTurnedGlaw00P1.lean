/-
  PRINTED BY PROGRAM: for each function its condition (vc), and that this suffices (ok).
-/
import Derived.Test.YteacalmdpoblpaaGreatQCodecTurnedGT
namespace Go.Proofs.YteacalmdpoblpaaGreat
open Go.RowKit
set_option linter.unusedVariables false

/-- The condition of topiary/topiarylaw00.Ops. -/
def law00_Ops.vc (l_1 : Sl) (R : Value → World → Prop) (w : World) : Prop :=
RunK Tryz.prog (Builtin.append_ #[23, 23] 23 #[Sl.v Sl.nil, Sl.v l_1]) w [] (fun v w6 => ∃ (r_12 : Sl), v = Sl.v r_12 ∧
R (Sl.v r_12) w6)
set_option maxHeartbeats 1000000 in
set_option maxRecDepth 10000 in
theorem law00_Ops.ok (l_1 : Sl) {R : Value → World → Prop} {w : World} (ht0 : law00_Ops.vc l_1 R w) : Calls Tryz.prog 9 #[Sl.v l_1] w (Ret R) := by
  refine enter [Sl.v l_1] Tryz.func9 rfl Tryz.ntmps9 rfl ?_
  intro a0 hA0
  unfold law00_Ops.vc at ht0
  refine wp_seq ?_
  refine wp_region_lit ?_
  refine sq (opk_val hA0 rfl (r_assign rfl) fun a2 hA2 _ => ?_)
  refine sq_end ?_
  have hA3 := hA2.keep [(0, Sl.v l_1)] ⟨rfl, trivial⟩
  refine then_normal ?_
  refine wp_seq ?_
  refine wp_region_lit ?_
  refine sq (opk_val hA3 rfl (r_move (hA3.get rfl)) fun a4 hA4 _ => ?_)
  refine sq (opk_run hA4 rfl (fun _ _ hr => r_append rfl (hA4.get rfl) hr) ht0 fun a5 v11 w6 hA5 _ hn8 hz9 hK10 => ?_)
  obtain ⟨r_12, rfl, ht7⟩ := hK10
  refine sq (opk_val hA5 rfl (r_assign (hA5.get rfl)) fun a13 hA13 _ => ?_)
  refine sq_end ?_
  have hA14 := hA13.keep [(2, Sl.v r_12)] ⟨rfl, trivial⟩
  refine then_normal ?_
  refine wp_ret ?_
  exact res_all (vs := [Sl.v r_12]) rfl hA14 ⟨res_of_tmp hA14 rfl, trivial⟩ ht7

/-- The condition of topiary/topiarylaw00.Place. -/
def law00_Place.vc (v_1 : Int) (n_2 : Int) (R : Value → World → Prop) (w : World) : Prop :=
(n_2 ≠ 0) ∧
(((v_1.tmod n_2) < 0) →
(I64 ((v_1.tmod n_2) + n_2)) ∧
R (.int .i64 ((v_1.tmod n_2) + n_2)) w) ∧
((¬ ((v_1.tmod n_2) < 0)) →
R (.int .i64 (v_1.tmod n_2)) w)
set_option maxHeartbeats 1000000 in
set_option maxRecDepth 10000 in
theorem law00_Place.ok (v_1 : Int) (n_2 : Int) {R : Value → World → Prop} {w : World} (ht0 : law00_Place.vc v_1 n_2 R w) : Calls Tryz.prog 10 #[.int .i64 v_1, .int .i64 n_2] w (Ret R) := by
  refine enter [.int .i64 v_1, .int .i64 n_2] Tryz.func10 rfl Tryz.ntmps10 rfl ?_
  intro a0 hA0
  unfold law00_Place.vc at ht0
  refine wp_seq ?_
  refine wp_region_lit ?_
  refine sq (opk_val hA0 rfl (r_assign rfl) fun a3 hA3 _ => ?_)
  refine sq_end ?_
  have hA4 := hA3.keep [(0, .int .i64 v_1), (1, .int .i64 n_2)] ⟨rfl, rfl, trivial⟩
  refine then_normal ?_
  refine wp_seq ?_
  refine wp_region_lit ?_
  refine sq (opk_val hA4 rfl (r_move (hA4.get rfl)) fun a5 hA5 _ => ?_)
  refine sq (opk_val hA5 rfl (r_move (hA5.get rfl)) fun a6 hA6 _ => ?_)
  obtain ⟨hS8, ht9⟩ := ht0
  refine sq (opk_val hA6 rfl (r_rem (hA6.get rfl) (hA6.get rfl) hS8) fun a7 hA7 _ => ?_)
  refine sq (opk_val hA7 rfl (r_assign (hA7.get rfl)) fun a10 hA10 _ => ?_)
  refine sq_end ?_
  have hA11 := hA10.keep [(1, .int .i64 n_2), (5, .int .i64 (v_1.tmod n_2))] ⟨rfl, rfl, trivial⟩
  refine then_normal ?_
  refine wp_seq ?_
  refine wp_seq ?_
  refine wp_region_lit ?_
  refine sq (opk_val hA11 rfl (r_move (hA11.get rfl)) fun a12 hA12 _ => ?_)
  refine sq (opk_val hA12 rfl (r_lss (hA12.get rfl) rfl) fun a13 hA13 _ => ?_)
  refine sq_end ?_
  have hA14 := hA13.keep [(1, .int .i64 n_2), (5, .int .i64 (v_1.tmod n_2)), (10, .bool (decide ((v_1.tmod n_2) < 0)))] ⟨rfl, rfl, rfl, trivial⟩
  refine then_normal ?_
  refine wp_cond_split (hA14.get rfl) (fun hc => ?_) (fun hc => ?_)
  · have ht15 := ht9.1 (of_decide_eq_true hc)
    clear hc
    refine wp_region_lit ?_
    refine sq (opk_val hA14 rfl (r_move (hA14.get rfl)) fun a17 hA17 _ => ?_)
    refine sq (opk_val hA17 rfl (r_move (hA17.get rfl)) fun a18 hA18 _ => ?_)
    obtain ⟨hS20, ht21⟩ := ht15
    refine sq (opk_val hA18 rfl (r_addI (hA18.get rfl) (hA18.get rfl) hS20) fun a19 hA19 _ => ?_)
    refine sq (opk_val hA19 rfl (r_assign (hA19.get rfl)) fun a22 hA22 _ => ?_)
    refine sq_end ?_
    have hA23 := hA22.keep [(5, .int .i64 ((v_1.tmod n_2) + n_2))] ⟨rfl, trivial⟩
    refine then_normal ?_
    refine wp_seq ?_
    refine wp_region_lit ?_
    refine sq (opk_val hA23 rfl (r_move (hA23.get rfl)) fun a24 hA24 _ => ?_)
    refine sq (opk_val hA24 rfl (r_assign (hA24.get rfl)) fun a25 hA25 _ => ?_)
    refine sq_end ?_
    have hA26 := hA25.keep [(4, .int .i64 ((v_1.tmod n_2) + n_2))] ⟨rfl, trivial⟩
    refine then_normal ?_
    refine wp_ret ?_
    exact res_all (vs := [.int .i64 ((v_1.tmod n_2) + n_2)]) rfl hA26 ⟨res_of_tmp hA26 rfl, trivial⟩ ht21
  · have ht16 := ht9.2 (of_decide_eq_false hc)
    clear hc
    refine wp_skip ?_
    refine then_normal ?_
    refine wp_seq ?_
    refine wp_region_lit ?_
    refine sq (opk_val hA14 rfl (r_move (hA14.get rfl)) fun a27 hA27 _ => ?_)
    refine sq (opk_val hA27 rfl (r_assign (hA27.get rfl)) fun a28 hA28 _ => ?_)
    refine sq_end ?_
    have hA29 := hA28.keep [(4, .int .i64 (v_1.tmod n_2))] ⟨rfl, trivial⟩
    refine then_normal ?_
    refine wp_ret ?_
    exact res_all (vs := [.int .i64 (v_1.tmod n_2)]) rfl hA29 ⟨res_of_tmp hA29 rfl, trivial⟩ ht16

end Go.Proofs.YteacalmdpoblpaaGreat
