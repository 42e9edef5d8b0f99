/-
  PRINTED BY PROGRAM: for each function its condition (vc), and that this suffices (ok).
-/
import Derived.Test.YtpacegmmbabhjaaGT
namespace Go.Proofs.Ytpacegmmbabhjaa
open Go.RowKit
set_option linter.unusedVariables false

/-- The condition of cmp.Or[int]. -/
def cmp_Or_int.vc (vals_1 : Sl) (R : Value → World → Prop) (w : World) : Prop :=
∃ (J_12 : Int → World → Prop) (mu_13 : Int → World → Nat),
J_12 0 w ∧
(∀ (x_10 : Int) (w11 : World), J_12 x_10 w11 →
((x_10 < (vals_1.n : Int)) →
((0 : Int) ≤ x_10 ∧ x_10 < (vals_1.n : Int)) ∧ ∃ p_53 : Addr, vals_1.a = some p_53 ∧
∃ (x_59 : Int), (w11.cell? (p_53.add (x_10.toNat * 1)) = some (.int .i64 x_59)) ∧
((x_59 ≠ 0) →
R (.int .i64 x_59) w11) ∧
((¬ (x_59 ≠ 0)) →
(I64 (x_10 + 1)) ∧
J_12 (x_10 + 1) w11 ∧ mu_13 (x_10 + 1) w11 < mu_13 x_10 w11)) ∧
((¬ (x_10 < (vals_1.n : Int))) →
R (.int .i64 0) w11))
set_option maxHeartbeats 1000000 in
set_option maxRecDepth 10000 in
theorem cmp_Or_int.ok (vals_1 : Sl) {R : Value → World → Prop} {w : World} (ht0 : cmp_Or_int.vc vals_1 R w) : Calls Try.prog 40 #[Sl.v vals_1] w (Ret R) := by
  refine enter [Sl.v vals_1] Try.func40 rfl Try.ntmps40 rfl ?_
  intro a0 hA0
  unfold cmp_Or_int.vc at ht0
  refine wp_seq ?_
  refine wp_region_lit ?_
  refine sq (opk_val hA0 rfl (r_assign rfl) fun a2 hA2 _ => ?_)
  refine sq_end ?_
  have hA3 := hA2.keep [(0, Sl.v vals_1)] ⟨rfl, trivial⟩
  refine then_normal ?_
  refine wp_seq ?_
  refine wp_region_lit ?_
  refine sq (opk_val hA3 rfl (r_assign rfl) fun a4 hA4 _ => ?_)
  refine sq_end ?_
  have hA5 := hA4.keep [(0, Sl.v vals_1), (3, .int .i64 0)] ⟨rfl, rfl, trivial⟩
  refine then_normal ?_
  refine wp_seq ?_
  refine wp_seq ?_
  refine wp_region_lit ?_
  refine sq (opk_val hA5 rfl (r_move (hA5.get rfl)) fun a6 hA6 _ => ?_)
  refine sq (opk_val hA6 rfl (r_len (hA6.get rfl) Try.underlying22) fun a7 hA7 _ => ?_)
  refine sq (opk_val hA7 rfl (r_move rfl) fun a8 hA8 _ => ?_)
  refine sq_end ?_
  have hA9 := hA8.keep [(3, .int .i64 0), (6, Sl.v vals_1), (7, .int .i64 (vals_1.n : Int)), (8, .int .i64 0)] ⟨rfl, rfl, rfl, rfl, trivial⟩
  refine then_normal ?_
  refine wp_block ?_
  obtain ⟨J_12, mu_13, h046, ht45⟩ := ht0
  refine wp_loop_st (σ := Int × World) (fun s a w => Ag 18 a [(3, .int .i64 0), (6, Sl.v vals_1), (7, .int .i64 (vals_1.n : Int)), (8, .int .i64 s.1)] ∧ w = s.2 ∧ J_12 s.1 s.2) (fun s => mu_13 s.1 s.2) (0, w) ⟨hA9.keep [(3, .int .i64 0), (6, Sl.v vals_1), (7, .int .i64 (vals_1.n : Int)), (8, .int .i64 0)] ⟨rfl, rfl, rfl, rfl, trivial⟩, rfl, h046⟩ ?_
  rintro ⟨x_10, w11⟩ a44 w_ ⟨hA44, hw_, hJ48⟩
  have hw_ : w11 = w_ := hw_.symm
  subst hw_
  have ht47 := ht45 x_10 _ hJ48
  refine wp_seq ?_
  refine wp_region_lit ?_
  refine sq (opk_val hA44 rfl (r_lss (hA44.get rfl) (hA44.get rfl)) fun a49 hA49 _ => ?_)
  refine sq_end ?_
  have hA50 := hA49.keep [(3, .int .i64 0), (6, Sl.v vals_1), (7, .int .i64 (vals_1.n : Int)), (8, .int .i64 x_10), (9, .bool (decide (x_10 < (vals_1.n : Int))))] ⟨rfl, rfl, rfl, rfl, rfl, trivial⟩
  refine then_normal ?_
  refine wp_seq ?_
  refine wp_cond_split (hA50.get rfl) (fun hc => ?_) (fun hc => ?_)
  · have ht51 := ht47.1 (of_decide_eq_true hc)
    clear hc
    refine wp_skip ?_
    refine then_normal ?_
    refine wp_seq ?_
    refine wp_block ?_
    refine wp_seq ?_
    refine wp_region_lit ?_
    obtain ⟨hb54, p_53, hp55, ht56⟩ := ht51
    refine sq (opk_val hA50 rfl (r_indexAddr (hA50.get rfl) (hA50.get rfl) Try.underlying22 ti_3 hb54 hp55) fun a57 hA57 _ => ?_)
    obtain ⟨x_59, hx60, ht61⟩ := ht56
    refine sq (opk_val hA57 rfl (r_load1 Try.underlying3 rfl (hA57.get rfl) hx60) fun a58 hA58 _ => ?_)
    refine sq (opk_val hA58 rfl (r_assign (hA58.get rfl)) fun a62 hA62 _ => ?_)
    refine sq_end ?_
    have hA63 := hA62.keep [(3, .int .i64 0), (5, .int .i64 x_59), (6, Sl.v vals_1), (7, .int .i64 (vals_1.n : Int)), (8, .int .i64 x_10)] ⟨rfl, rfl, rfl, rfl, rfl, trivial⟩
    refine then_normal ?_
    refine wp_seq ?_
    refine wp_region_lit ?_
    refine sq (opk_val hA63 rfl (r_move (hA63.get rfl)) fun a64 hA64 _ => ?_)
    refine sq (opk_val hA64 rfl (r_move (hA64.get rfl)) fun a65 hA65 _ => ?_)
    refine sq (opk_val hA65 rfl (r_neq (hA65.get rfl) (hA65.get rfl)) fun a66 hA66 _ => ?_)
    refine sq_end ?_
    have hA67 := hA66.keep [(3, .int .i64 0), (5, .int .i64 x_59), (6, Sl.v vals_1), (7, .int .i64 (vals_1.n : Int)), (8, .int .i64 x_10), (14, .bool (decide (x_59 ≠ 0)))] ⟨rfl, rfl, rfl, rfl, rfl, rfl, trivial⟩
    refine then_normal ?_
    refine wp_cond_split (hA67.get rfl) (fun hc => ?_) (fun hc => ?_)
    · have ht68 := ht61.1 (of_decide_eq_true hc)
      clear hc
      refine wp_seq ?_
      refine wp_region_lit ?_
      refine sq (opk_val hA67 rfl (r_move (hA67.get rfl)) fun a70 hA70 _ => ?_)
      refine sq (opk_val hA70 rfl (r_assign (hA70.get rfl)) fun a71 hA71 _ => ?_)
      refine sq_end ?_
      have hA72 := hA71.keep [(2, .int .i64 x_59)] ⟨rfl, trivial⟩
      refine then_normal ?_
      refine wp_ret ?_
      refine block_ret ?_
      refine then_ret ?_
      refine then_ret ?_
      refine block_ret ?_
      refine then_ret ?_
      exact res_all (vs := [.int .i64 x_59]) rfl hA72 ⟨res_of_tmp hA72 rfl, trivial⟩ ht68
    · have ht69 := ht61.2 (of_decide_eq_false hc)
      clear hc
      refine wp_skip ?_
      refine block_normal ?_
      refine then_normal ?_
      refine wp_region_lit ?_
      obtain ⟨hS74, ht75⟩ := ht69
      refine sq (opk_val hA67 rfl (r_addI (hA67.get rfl) rfl hS74) fun a73 hA73 _ => ?_)
      refine sq (opk_val hA73 rfl (r_move (hA73.get rfl)) fun a76 hA76 _ => ?_)
      refine sq_end ?_
      have hA77 := hA76.keep [(3, .int .i64 0), (6, Sl.v vals_1), (7, .int .i64 (vals_1.n : Int)), (8, .int .i64 (x_10 + 1))] ⟨rfl, rfl, rfl, rfl, trivial⟩
      have hA78 := hA77.keep [(3, .int .i64 0), (6, Sl.v vals_1), (7, .int .i64 (vals_1.n : Int)), (8, .int .i64 (x_10 + 1))] ⟨rfl, rfl, rfl, rfl, trivial⟩
      exact then_normal ⟨(x_10 + 1, w11), ⟨hA78, rfl, ht75.1⟩, ht75.2⟩
  · have ht52 := ht47.2 (of_decide_eq_false hc)
    clear hc
    refine wp_exit ?_
    refine then_exit ?_
    refine then_exit ?_
    refine block_hit ?_
    have hA79 := hA50.keep [(3, .int .i64 0)] ⟨rfl, trivial⟩
    refine then_normal ?_
    refine wp_seq ?_
    refine wp_region_lit ?_
    refine sq (opk_val hA79 rfl (r_move (hA79.get rfl)) fun a80 hA80 _ => ?_)
    refine sq (opk_val hA80 rfl (r_assign (hA80.get rfl)) fun a81 hA81 _ => ?_)
    refine sq_end ?_
    have hA82 := hA81.keep [(2, .int .i64 0)] ⟨rfl, trivial⟩
    refine then_normal ?_
    refine wp_ret ?_
    exact res_all (vs := [.int .i64 0]) rfl hA82 ⟨res_of_tmp hA82 rfl, trivial⟩ ht52

/-- The condition of cmp.Compare[int]. -/
def cmp_Compare_int.vc (x_1 : Int) (y_2 : Int) (R : Value → World → Prop) (w : World) : Prop :=
CallK Try.prog 48 #[.int .i64 x_1] w [] (fun v w8 => ∃ (r_6 : Bool), v = .bool r_6 ∧
CallK Try.prog 48 #[.int .i64 y_2] w8 [] (fun v w19 => ∃ (r_17 : Bool), v = .bool r_17 ∧
((r_6 = true) →
((r_17 = true) →
R (.int .i64 0) w19) ∧
((r_17 = false) →
R (.int .i64 (-1)) w19)) ∧
((r_6 = false) →
((r_17 = true) →
R (.int .i64 1) w19) ∧
((r_17 = false) →
((x_1 < y_2) →
R (.int .i64 (-1)) w19) ∧
((¬ (x_1 < y_2)) →
((y_2 < x_1) →
R (.int .i64 1) w19) ∧
((¬ (y_2 < x_1)) →
R (.int .i64 0) w19))))))
set_option maxHeartbeats 1000000 in
set_option maxRecDepth 10000 in
theorem cmp_Compare_int.ok (x_1 : Int) (y_2 : Int) {R : Value → World → Prop} {w : World} (ht0 : cmp_Compare_int.vc x_1 y_2 R w) : Calls Try.prog 41 #[.int .i64 x_1, .int .i64 y_2] w (Ret R) := by
  refine enter [.int .i64 x_1, .int .i64 y_2] Try.func41 rfl Try.ntmps41 rfl ?_
  intro a0 hA0
  unfold cmp_Compare_int.vc at ht0
  refine wp_seq ?_
  refine wp_region_lit ?_
  refine sq (opk_val hA0 rfl (r_assign rfl) fun a3 hA3 _ => ?_)
  refine sq_end ?_
  have hA4 := hA3.keep [(0, .int .i64 x_1), (1, .int .i64 y_2)] ⟨rfl, rfl, trivial⟩
  refine then_normal ?_
  refine wp_seq ?_
  refine wp_region_lit ?_
  refine sq (opk_val hA4 rfl (r_move (hA4.get rfl)) fun a5 hA5 _ => ?_)
  refine sq (opk_call hA5 rfl (r_call (args := #[.int .i64 x_1]) Try.func48 (by decide) rfl (map_arr (ml_cons (hA5.get rfl) ml_nil)) rfl) ht0 fun a7 v13 w8 hA7 _ hn10 hz11 hK12 => ?_)
  obtain ⟨r_6, rfl, ht9⟩ := hK12
  refine sq (opk_val hA7 rfl (r_assign (hA7.get rfl)) fun a14 hA14 _ => ?_)
  refine sq_end ?_
  have hA15 := hA14.keep [(0, .int .i64 x_1), (1, .int .i64 y_2), (5, .bool r_6)] ⟨rfl, rfl, rfl, trivial⟩
  refine then_normal ?_
  refine wp_seq ?_
  refine wp_region_lit ?_
  refine sq (opk_val hA15 rfl (r_move (hA15.get rfl)) fun a16 hA16 _ => ?_)
  refine sq (opk_call hA16 rfl (r_call (args := #[.int .i64 y_2]) Try.func48 (by decide) rfl (map_arr (ml_cons (hA16.get rfl) ml_nil)) rfl) ht9 fun a18 v24 w19 hA18 _ hn21 hz22 hK23 => ?_)
  obtain ⟨r_17, rfl, ht20⟩ := hK23
  refine sq (opk_val hA18 rfl (r_assign (hA18.get rfl)) fun a25 hA25 _ => ?_)
  refine sq_end ?_
  have hA26 := hA25.keep [(0, .int .i64 x_1), (1, .int .i64 y_2), (5, .bool r_6), (6, .bool r_17)] ⟨rfl, rfl, rfl, rfl, trivial⟩
  refine then_normal ?_
  refine wp_seq ?_
  refine wp_seq ?_
  refine wp_region_lit ?_
  refine sq (opk_val hA26 rfl (r_move (hA26.get rfl)) fun a27 hA27 _ => ?_)
  refine sq_end ?_
  have hA28 := hA27.keep [(0, .int .i64 x_1), (1, .int .i64 y_2), (6, .bool r_17), (11, .bool r_6)] ⟨rfl, rfl, rfl, rfl, trivial⟩
  refine then_normal ?_
  refine wp_cond_split (hA28.get rfl) (fun hc => ?_) (fun hc => ?_)
  · have ht29 := ht20.1 hc
    clear hc
    refine wp_seq ?_
    refine wp_seq ?_
    refine wp_region_lit ?_
    refine sq (opk_val hA28 rfl (r_move (hA28.get rfl)) fun a31 hA31 _ => ?_)
    refine sq_end ?_
    have hA32 := hA31.keep [(12, .bool r_17)] ⟨rfl, trivial⟩
    refine then_normal ?_
    refine wp_cond_split (hA32.get rfl) (fun hc => ?_) (fun hc => ?_)
    · have ht33 := ht29.1 hc
      clear hc
      refine wp_seq ?_
      refine wp_region_lit ?_
      refine sq (opk_val hA32 rfl (r_assign rfl) fun a35 hA35 _ => ?_)
      refine sq_end ?_
      have hA36 := hA35.keep [(4, .int .i64 0)] ⟨rfl, trivial⟩
      refine then_normal ?_
      refine wp_ret ?_
      refine then_ret ?_
      refine then_ret ?_
      exact res_all (vs := [.int .i64 0]) rfl hA36 ⟨res_of_tmp hA36 rfl, trivial⟩ ht33
    · have ht34 := ht29.2 hc
      clear hc
      refine wp_skip ?_
      refine then_normal ?_
      refine wp_seq ?_
      refine wp_region_lit ?_
      refine sq (opk_val hA32 rfl (r_assign rfl) fun a37 hA37 _ => ?_)
      refine sq_end ?_
      have hA38 := hA37.keep [(4, .int .i64 (-1))] ⟨rfl, trivial⟩
      refine then_normal ?_
      refine wp_ret ?_
      refine then_ret ?_
      exact res_all (vs := [.int .i64 (-1)]) rfl hA38 ⟨res_of_tmp hA38 rfl, trivial⟩ ht34
  · have ht30 := ht20.2 hc
    clear hc
    refine wp_skip ?_
    refine then_normal ?_
    refine wp_seq ?_
    refine wp_seq ?_
    refine wp_region_lit ?_
    refine sq (opk_val hA28 rfl (r_move (hA28.get rfl)) fun a39 hA39 _ => ?_)
    refine sq_end ?_
    have hA40 := hA39.keep [(0, .int .i64 x_1), (1, .int .i64 y_2), (13, .bool r_17)] ⟨rfl, rfl, rfl, trivial⟩
    refine then_normal ?_
    refine wp_cond_split (hA40.get rfl) (fun hc => ?_) (fun hc => ?_)
    · have ht41 := ht30.1 hc
      clear hc
      refine wp_seq ?_
      refine wp_region_lit ?_
      refine sq (opk_val hA40 rfl (r_assign rfl) fun a43 hA43 _ => ?_)
      refine sq_end ?_
      have hA44 := hA43.keep [(4, .int .i64 1)] ⟨rfl, trivial⟩
      refine then_normal ?_
      refine wp_ret ?_
      refine then_ret ?_
      exact res_all (vs := [.int .i64 1]) rfl hA44 ⟨res_of_tmp hA44 rfl, trivial⟩ ht41
    · have ht42 := ht30.2 hc
      clear hc
      refine wp_skip ?_
      refine then_normal ?_
      refine wp_seq ?_
      refine wp_seq ?_
      refine wp_region_lit ?_
      refine sq (opk_val hA40 rfl (r_move (hA40.get rfl)) fun a45 hA45 _ => ?_)
      refine sq (opk_val hA45 rfl (r_move (hA45.get rfl)) fun a46 hA46 _ => ?_)
      refine sq (opk_val hA46 rfl (r_lss (hA46.get rfl) (hA46.get rfl)) fun a47 hA47 _ => ?_)
      refine sq_end ?_
      have hA48 := hA47.keep [(0, .int .i64 x_1), (1, .int .i64 y_2), (16, .bool (decide (x_1 < y_2)))] ⟨rfl, rfl, rfl, trivial⟩
      refine then_normal ?_
      refine wp_cond_split (hA48.get rfl) (fun hc => ?_) (fun hc => ?_)
      · have ht49 := ht42.1 (of_decide_eq_true hc)
        clear hc
        refine wp_seq ?_
        refine wp_region_lit ?_
        refine sq (opk_val hA48 rfl (r_assign rfl) fun a51 hA51 _ => ?_)
        refine sq_end ?_
        have hA52 := hA51.keep [(4, .int .i64 (-1))] ⟨rfl, trivial⟩
        refine then_normal ?_
        refine wp_ret ?_
        refine then_ret ?_
        exact res_all (vs := [.int .i64 (-1)]) rfl hA52 ⟨res_of_tmp hA52 rfl, trivial⟩ ht49
      · have ht50 := ht42.2 (of_decide_eq_false hc)
        clear hc
        refine wp_skip ?_
        refine then_normal ?_
        refine wp_seq ?_
        refine wp_seq ?_
        refine wp_region_lit ?_
        refine sq (opk_val hA48 rfl (r_move (hA48.get rfl)) fun a53 hA53 _ => ?_)
        refine sq (opk_val hA53 rfl (r_move (hA53.get rfl)) fun a54 hA54 _ => ?_)
        refine sq (opk_val hA54 rfl (r_gtr (hA54.get rfl) (hA54.get rfl)) fun a55 hA55 _ => ?_)
        refine sq_end ?_
        have hA56 := hA55.keep [(19, .bool (decide (y_2 < x_1)))] ⟨rfl, trivial⟩
        refine then_normal ?_
        refine wp_cond_split (hA56.get rfl) (fun hc => ?_) (fun hc => ?_)
        · have ht57 := ht50.1 (of_decide_eq_true hc)
          clear hc
          refine wp_seq ?_
          refine wp_region_lit ?_
          refine sq (opk_val hA56 rfl (r_assign rfl) fun a59 hA59 _ => ?_)
          refine sq_end ?_
          have hA60 := hA59.keep [(4, .int .i64 1)] ⟨rfl, trivial⟩
          refine then_normal ?_
          refine wp_ret ?_
          refine then_ret ?_
          exact res_all (vs := [.int .i64 1]) rfl hA60 ⟨res_of_tmp hA60 rfl, trivial⟩ ht57
        · have ht58 := ht50.2 (of_decide_eq_false hc)
          clear hc
          refine wp_skip ?_
          refine then_normal ?_
          refine wp_seq ?_
          refine wp_region_lit ?_
          refine sq (opk_val hA56 rfl (r_assign rfl) fun a61 hA61 _ => ?_)
          refine sq_end ?_
          have hA62 := hA61.keep [(4, .int .i64 0)] ⟨rfl, trivial⟩
          refine then_normal ?_
          refine wp_ret ?_
          exact res_all (vs := [.int .i64 0]) rfl hA62 ⟨res_of_tmp hA62 rfl, trivial⟩ ht58

/-- The condition of strings.Compare. -/
def strings_Compare.vc (a_1 : Str) (b_2 : Str) (R : Value → World → Prop) (w : World) : Prop :=
CallK Try.prog 49 #[.string (Bs a_1), .string (Bs b_2)] w [] (fun v w9 => ∃ (r_7 : Int), v = .int .i64 r_7 ∧
R (.int .i64 r_7) w9)
set_option maxHeartbeats 1000000 in
set_option maxRecDepth 10000 in
theorem strings_Compare.ok (a_1 : Str) (b_2 : Str) {R : Value → World → Prop} {w : World} (ht0 : strings_Compare.vc a_1 b_2 R w) : Calls Try.prog 42 #[.string (Bs a_1), .string (Bs b_2)] w (Ret R) := by
  refine enter [.string (Bs a_1), .string (Bs b_2)] Try.func42 rfl Try.ntmps42 rfl ?_
  intro a0 hA0
  unfold strings_Compare.vc at ht0
  refine wp_seq ?_
  refine wp_region_lit ?_
  refine sq (opk_val hA0 rfl (r_assign rfl) fun a3 hA3 _ => ?_)
  refine sq_end ?_
  have hA4 := hA3.keep [(0, .string (Bs a_1)), (1, .string (Bs b_2))] ⟨rfl, rfl, trivial⟩
  refine then_normal ?_
  refine wp_seq ?_
  refine wp_region_lit ?_
  refine sq (opk_val hA4 rfl (r_move (hA4.get rfl)) fun a5 hA5 _ => ?_)
  refine sq (opk_val hA5 rfl (r_move (hA5.get rfl)) fun a6 hA6 _ => ?_)
  refine sq (opk_call hA6 rfl (r_call (args := #[.string (Bs a_1), .string (Bs b_2)]) Try.func49 (by decide) rfl (map_arr (ml_cons (hA6.get rfl) (ml_cons (hA6.get rfl) ml_nil))) rfl) ht0 fun a8 v14 w9 hA8 _ hn11 hz12 hK13 => ?_)
  obtain ⟨r_7, rfl, ht10⟩ := hK13
  refine sq (opk_val hA8 rfl (r_assign (hA8.get rfl)) fun a15 hA15 _ => ?_)
  refine sq_end ?_
  have hA16 := hA15.keep [(4, .int .i64 r_7)] ⟨rfl, trivial⟩
  refine then_normal ?_
  refine wp_ret ?_
  exact res_all (vs := [.int .i64 r_7]) rfl hA16 ⟨res_of_tmp hA16 rfl, trivial⟩ ht10

/-- The condition of cmp.isNaN[int]. -/
def cmp_isNaN_int.vc (x_1 : Int) (R : Value → World → Prop) (w : World) : Prop :=
R (.bool (decide (x_1 ≠ x_1))) w
set_option maxHeartbeats 1000000 in
set_option maxRecDepth 10000 in
theorem cmp_isNaN_int.ok (x_1 : Int) {R : Value → World → Prop} {w : World} (ht0 : cmp_isNaN_int.vc x_1 R w) : Calls Try.prog 48 #[.int .i64 x_1] w (Ret R) := by
  refine enter [.int .i64 x_1] Try.func48 rfl Try.ntmps48 rfl ?_
  intro a0 hA0
  unfold cmp_isNaN_int.vc at ht0
  refine wp_seq ?_
  refine wp_region_lit ?_
  refine sq (opk_val hA0 rfl (r_assign rfl) fun a2 hA2 _ => ?_)
  refine sq_end ?_
  have hA3 := hA2.keep [(0, .int .i64 x_1)] ⟨rfl, trivial⟩
  refine then_normal ?_
  refine wp_seq ?_
  refine wp_region_lit ?_
  refine sq (opk_val hA3 rfl (r_move (hA3.get rfl)) fun a4 hA4 _ => ?_)
  refine sq (opk_val hA4 rfl (r_move (hA4.get rfl)) fun a5 hA5 _ => ?_)
  refine sq (opk_val hA5 rfl (r_neq (hA5.get rfl) (hA5.get rfl)) fun a6 hA6 _ => ?_)
  refine sq (opk_val hA6 rfl (r_assign (hA6.get rfl)) fun a7 hA7 _ => ?_)
  refine sq_end ?_
  have hA8 := hA7.keep [(2, .bool (decide (x_1 ≠ x_1)))] ⟨rfl, trivial⟩
  refine then_normal ?_
  refine wp_ret ?_
  exact res_all (vs := [.bool (decide (x_1 ≠ x_1))]) rfl hA8 ⟨res_of_tmp hA8 rfl, trivial⟩ ht0

/-- The condition of internal/bytealg.CompareString. -/
def bytealg_CompareString.vc (a_1 : Str) (b_2 : Str) (R : Value → World → Prop) (w : World) : Prop :=
R (.int .i64 (Lib.compareBytes a_1 b_2)) w
set_option maxHeartbeats 1000000 in
set_option maxRecDepth 10000 in
theorem bytealg_CompareString.ok (a_1 : Str) (b_2 : Str) {R : Value → World → Prop} {w : World} (ht0 : bytealg_CompareString.vc a_1 b_2 R w) : Calls Try.prog 49 #[.string (Bs a_1), .string (Bs b_2)] w (Ret R) := by
  refine enter [.string (Bs a_1), .string (Bs b_2)] Try.func49 rfl Try.ntmps49 rfl ?_
  intro a0 hA0
  unfold bytealg_CompareString.vc at ht0
  refine wp_seq ?_
  refine wp_region_lit ?_
  refine sq (opk_val hA0 rfl (r_assign rfl) fun a3 hA3 _ => ?_)
  refine sq_end ?_
  have hA4 := hA3.keep [(0, .string (Bs a_1)), (1, .string (Bs b_2))] ⟨rfl, rfl, trivial⟩
  refine then_normal ?_
  refine wp_seq ?_
  refine wp_region_lit ?_
  refine sq (opk_val hA4 rfl (r_move (hA4.get rfl)) fun a5 hA5 _ => ?_)
  refine sq (opk_val hA5 rfl (r_move (hA5.get rfl)) fun a6 hA6 _ => ?_)
  refine sq (opk_val hA6 rfl (r_cmpstr Try.func52 (by kernel_rfl) (by kernel_rfl) (by kernel_rfl) (by kernel_rfl) (map_arr (ml_cons (hA6.get rfl) (ml_cons (hA6.get rfl) ml_nil))) rfl) fun a7 hA7 _ => ?_)
  refine sq (opk_val hA7 rfl (r_assign (hA7.get rfl)) fun a8 hA8 _ => ?_)
  refine sq_end ?_
  have hA9 := hA8.keep [(4, .int .i64 (Lib.compareBytes a_1 b_2))] ⟨rfl, trivial⟩
  refine then_normal ?_
  refine wp_ret ?_
  exact res_all (vs := [.int .i64 (Lib.compareBytes a_1 b_2)]) rfl hA9 ⟨res_of_tmp hA9 rfl, trivial⟩ ht0

end Go.Proofs.Ytpacegmmbabhjaa
