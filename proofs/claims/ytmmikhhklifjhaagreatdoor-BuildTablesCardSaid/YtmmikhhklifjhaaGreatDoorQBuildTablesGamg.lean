/-
  PRINTED BY PROGRAM: for each function its condition (vc), and that this suffices (ok).
-/
import Derived.Test.YtmmikhhklifjhaaGreatDoorQBuildTablesGT
namespace Go.Proofs.YtmmikhhklifjhaaGreatDoor
open Go.RowKit
set_option linter.unusedVariables false

/-- The condition of topiary/stack.among. -/
def stack_among.vc (l_1 : Str) (name_2 : Str) (R : Value → World → Prop) (w : World) : Prop :=
CallK Tryz.prog 160 #[.string (Bs l_1)] w [] (fun v w8 => ∃ (r_6 : Sl), v = Sl.v r_6 ∧
∃ (J_19 : Int → World → Prop) (mu_20 : Int → World → Nat),
J_19 0 w8 ∧
(∀ (x_17 : Int) (w18 : World), J_19 x_17 w18 →
((x_17 < (r_6.n : Int)) →
((0 : Int) ≤ x_17 ∧ x_17 < (r_6.n : Int)) ∧ ∃ p_59 : Addr, r_6.a = some p_59 ∧
∃ (x_65 : Str), (w18.cell? (p_59.add (x_17.toNat * 1)) = some (.string (Bs x_65))) ∧
((x_65 = name_2) →
R (.bool true) w18) ∧
((¬ (x_65 = name_2)) →
(I64 (x_17 + 1)) ∧
J_19 (x_17 + 1) w18 ∧ mu_20 (x_17 + 1) w18 < mu_20 x_17 w18)) ∧
((¬ (x_17 < (r_6.n : Int))) →
R (.bool false) w18)))
set_option maxHeartbeats 1000000 in
set_option maxRecDepth 10000 in
theorem stack_among.ok (l_1 : Str) (name_2 : Str) {R : Value → World → Prop} {w : World} (ht0 : stack_among.vc l_1 name_2 R w) : Calls Tryz.prog 133 #[.string (Bs l_1), .string (Bs name_2)] w (Ret R) := by
  refine enter [.string (Bs l_1), .string (Bs name_2)] Tryz.func133 rfl Tryz.ntmps133 rfl ?_
  intro a0 hA0
  unfold stack_among.vc at ht0
  refine wp_seq ?_
  refine wp_region_lit ?_
  refine sq (opk_val hA0 rfl (r_assign rfl) fun a3 hA3 _ => ?_)
  refine sq_end ?_
  have hA4 := hA3.keep [(0, .string (Bs l_1)), (1, .string (Bs name_2))] ⟨rfl, rfl, trivial⟩
  refine then_normal ?_
  refine wp_seq ?_
  refine wp_seq ?_
  refine wp_region_lit ?_
  refine sq (opk_val hA4 rfl (r_move (hA4.get rfl)) fun a5 hA5 _ => ?_)
  refine sq (opk_call hA5 rfl (r_call (args := #[.string (Bs l_1)]) Tryz.func160 (by decide) rfl (map_arr (ml_cons (hA5.get rfl) ml_nil)) rfl) ht0 fun a7 v13 w8 hA7 _ hn10 hz11 hK12 => ?_)
  obtain ⟨r_6, rfl, ht9⟩ := hK12
  refine sq (opk_val hA7 rfl (r_len (hA7.get rfl) Tryz.underlying47) fun a14 hA14 _ => ?_)
  refine sq (opk_val hA14 rfl (r_move rfl) fun a15 hA15 _ => ?_)
  refine sq_end ?_
  have hA16 := hA15.keep [(1, .string (Bs name_2)), (8, Sl.v r_6), (9, .int .i64 (r_6.n : Int)), (10, .int .i64 0)] ⟨rfl, rfl, rfl, rfl, trivial⟩
  refine then_normal ?_
  refine wp_block ?_
  obtain ⟨J_19, mu_20, h052, ht51⟩ := ht9
  refine wp_loop_st (σ := Int × World) (fun s a w => Ag 18 a [(1, .string (Bs name_2)), (8, Sl.v r_6), (9, .int .i64 (r_6.n : Int)), (10, .int .i64 s.1)] ∧ w = s.2 ∧ J_19 s.1 s.2) (fun s => mu_20 s.1 s.2) (0, w8) ⟨hA16.keep [(1, .string (Bs name_2)), (8, Sl.v r_6), (9, .int .i64 (r_6.n : Int)), (10, .int .i64 0)] ⟨rfl, rfl, rfl, rfl, trivial⟩, rfl, h052⟩ ?_
  rintro ⟨x_17, w18⟩ a50 w_ ⟨hA50, hw_, hJ54⟩
  have hw_ : w18 = w_ := hw_.symm
  subst hw_
  have ht53 := ht51 x_17 _ hJ54
  refine wp_seq ?_
  refine wp_region_lit ?_
  refine sq (opk_val hA50 rfl (r_lss (hA50.get rfl) (hA50.get rfl)) fun a55 hA55 _ => ?_)
  refine sq_end ?_
  have hA56 := hA55.keep [(1, .string (Bs name_2)), (8, Sl.v r_6), (9, .int .i64 (r_6.n : Int)), (10, .int .i64 x_17), (11, .bool (decide (x_17 < (r_6.n : Int))))] ⟨rfl, rfl, rfl, rfl, rfl, trivial⟩
  refine then_normal ?_
  refine wp_seq ?_
  refine wp_cond_split (hA56.get rfl) (fun hc => ?_) (fun hc => ?_)
  · have ht57 := ht53.1 (of_decide_eq_true hc)
    clear hc
    refine wp_skip ?_
    refine then_normal ?_
    refine wp_seq ?_
    refine wp_block ?_
    refine wp_seq ?_
    refine wp_region_lit ?_
    obtain ⟨hb60, p_59, hp61, ht62⟩ := ht57
    refine sq (opk_val hA56 rfl (r_indexAddr (hA56.get rfl) (hA56.get rfl) Tryz.underlying47 ti_9 hb60 hp61) fun a63 hA63 _ => ?_)
    obtain ⟨x_65, hx66, ht67⟩ := ht62
    refine sq (opk_val hA63 rfl (r_load1 Tryz.underlying9 rfl (hA63.get rfl) hx66) fun a64 hA64 _ => ?_)
    refine sq (opk_val hA64 rfl (r_assign (hA64.get rfl)) fun a68 hA68 _ => ?_)
    refine sq_end ?_
    have hA69 := hA68.keep [(1, .string (Bs name_2)), (6, .string (Bs x_65)), (8, Sl.v r_6), (9, .int .i64 (r_6.n : Int)), (10, .int .i64 x_17)] ⟨rfl, rfl, rfl, rfl, rfl, trivial⟩
    refine then_normal ?_
    refine wp_seq ?_
    refine wp_region_lit ?_
    refine sq (opk_val hA69 rfl (r_move (hA69.get rfl)) fun a70 hA70 _ => ?_)
    refine sq (opk_val hA70 rfl (r_move (hA70.get rfl)) fun a71 hA71 _ => ?_)
    refine sq (opk_val hA71 rfl (r_seql (hA71.get rfl) (hA71.get rfl)) fun a72 hA72 _ => ?_)
    refine sq_end ?_
    have hA73 := hA72.keep [(1, .string (Bs name_2)), (8, Sl.v r_6), (9, .int .i64 (r_6.n : Int)), (10, .int .i64 x_17), (16, .bool (decide (x_65 = name_2)))] ⟨rfl, rfl, rfl, rfl, rfl, trivial⟩
    refine then_normal ?_
    refine wp_cond_split (hA73.get rfl) (fun hc => ?_) (fun hc => ?_)
    · have ht74 := ht67.1 (of_decide_eq_true hc)
      clear hc
      refine wp_seq ?_
      refine wp_region_lit ?_
      refine sq (opk_val hA73 rfl (r_assign rfl) fun a76 hA76 _ => ?_)
      refine sq_end ?_
      have hA77 := hA76.keep [(4, .bool true)] ⟨rfl, trivial⟩
      refine then_normal ?_
      refine wp_ret ?_
      refine block_ret ?_
      refine then_ret ?_
      refine then_ret ?_
      refine block_ret ?_
      refine then_ret ?_
      exact res_all (vs := [.bool true]) rfl hA77 ⟨res_of_tmp hA77 rfl, trivial⟩ ht74
    · have ht75 := ht67.2 (of_decide_eq_false hc)
      clear hc
      refine wp_skip ?_
      refine block_normal ?_
      refine then_normal ?_
      refine wp_region_lit ?_
      obtain ⟨hS79, ht80⟩ := ht75
      refine sq (opk_val hA73 rfl (r_addI (hA73.get rfl) rfl hS79) fun a78 hA78 _ => ?_)
      refine sq (opk_val hA78 rfl (r_move (hA78.get rfl)) fun a81 hA81 _ => ?_)
      refine sq_end ?_
      have hA82 := hA81.keep [(1, .string (Bs name_2)), (8, Sl.v r_6), (9, .int .i64 (r_6.n : Int)), (10, .int .i64 (x_17 + 1))] ⟨rfl, rfl, rfl, rfl, trivial⟩
      have hA83 := hA82.keep [(1, .string (Bs name_2)), (8, Sl.v r_6), (9, .int .i64 (r_6.n : Int)), (10, .int .i64 (x_17 + 1))] ⟨rfl, rfl, rfl, rfl, trivial⟩
      exact then_normal ⟨(x_17 + 1, w18), ⟨hA83, rfl, ht80.1⟩, ht80.2⟩
  · have ht58 := ht53.2 (of_decide_eq_false hc)
    clear hc
    refine wp_exit ?_
    refine then_exit ?_
    refine then_exit ?_
    refine block_hit ?_
    have hA84 := hA56.keep [] trivial
    refine then_normal ?_
    refine wp_seq ?_
    refine wp_region_lit ?_
    refine sq (opk_val hA84 rfl (r_assign rfl) fun a85 hA85 _ => ?_)
    refine sq_end ?_
    have hA86 := hA85.keep [(4, .bool false)] ⟨rfl, trivial⟩
    refine then_normal ?_
    refine wp_ret ?_
    exact res_all (vs := [.bool false]) rfl hA86 ⟨res_of_tmp hA86 rfl, trivial⟩ ht58

end Go.Proofs.YtmmikhhklifjhaaGreatDoor
