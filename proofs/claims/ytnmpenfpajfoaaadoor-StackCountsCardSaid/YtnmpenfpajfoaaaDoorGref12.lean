/-
  PRINTED BY PROGRAM: for each function its condition (vc), and that this suffices (ok).
-/
import Derived.Test.YtnmpenfpajfoaaaDoorGT
namespace Go.Proofs.YtnmpenfpajfoaaaDoor
open Go.RowKit
set_option linter.unusedVariables false

/-- The condition of topiary/topiaryref12.Sort. -/
def ref12_Sort.vc (sort_1 : Int) (R : Value → World → Prop) (w : World) : Prop :=
((sort_1 = 1) →
∀ (w12 : World) (B_11 : Nat), New w B_11 w12 → Chg [] w w12 →
∀ (_ : Box w12 B_11 9 [.string (Bs ([97, 114, 101, 97] : Str)), .string (Bs ([98, 97, 115, 101] : Str)), .string (Bs ([98, 114] : Str)), .string (Bs ([99, 111, 108] : Str)), .string (Bs ([101, 109, 98, 101, 100] : Str)), .string (Bs ([104, 114] : Str)), .string (Bs ([105, 109, 103] : Str)), .string (Bs ([105, 110, 112, 117, 116] : Str)), .string (Bs ([108, 105, 110, 107] : Str)), .string (Bs ([109, 101, 116, 97] : Str)), .string (Bs ([112, 97, 114, 97, 109] : Str)), .string (Bs ([115, 111, 117, 114, 99, 101] : Str)), .string (Bs ([116, 114, 97, 99, 107] : Str)), .string (Bs ([119, 98, 114] : Str))]),
R (Sl.v (Sl.mk (some ⟨B_11, 0, none⟩) 14 14)) w12) ∧
((¬ (sort_1 = 1)) →
((sort_1 = 2) →
∀ (w29 : World) (B_28 : Nat), New w B_28 w29 → Chg [] w w29 →
∀ (_ : Box w29 B_28 9 [.string (Bs ([97, 100, 100, 114, 101, 115, 115] : Str)), .string (Bs ([97, 112, 112, 108, 101, 116] : Str)), .string (Bs ([97, 114, 101, 97] : Str)), .string (Bs ([97, 114, 116, 105, 99, 108, 101] : Str)), .string (Bs ([97, 115, 105, 100, 101] : Str)), .string (Bs ([98, 97, 115, 101] : Str)), .string (Bs ([98, 108, 111, 99, 107, 113, 117, 111, 116, 101] : Str)), .string (Bs ([98, 111, 100, 121] : Str)), .string (Bs ([98, 114] : Str)), .string (Bs ([98, 117, 116, 116, 111, 110] : Str)), .string (Bs ([99, 97, 112, 116, 105, 111, 110] : Str)), .string (Bs ([99, 101, 110, 116, 101, 114] : Str)), .string (Bs ([99, 111, 108] : Str)), .string (Bs ([99, 111, 108, 103, 114, 111, 117, 112] : Str)), .string (Bs ([100, 100] : Str)), .string (Bs ([100, 101, 116, 97, 105, 108, 115] : Str)), .string (Bs ([100, 105, 114] : Str)), .string (Bs ([100, 105, 118] : Str)), .string (Bs ([100, 108] : Str)), .string (Bs ([100, 116] : Str)), .string (Bs ([101, 109, 98, 101, 100] : Str)), .string (Bs ([102, 105, 101, 108, 100, 115, 101, 116] : Str)), .string (Bs ([102, 105, 103, 99, 97, 112, 116, 105, 111, 110] : Str)), .string (Bs ([102, 105, 103, 117, 114, 101] : Str)), .string (Bs ([102, 111, 111, 116, 101, 114] : Str)), .string (Bs ([102, 111, 114, 109] : Str)), .string (Bs ([104, 49] : Str)), .string (Bs ([104, 50] : Str)), .string (Bs ([104, 51] : Str)), .string (Bs ([104, 52] : Str)), .string (Bs ([104, 53] : Str)), .string (Bs ([104, 54] : Str)), .string (Bs ([104, 101, 97, 100] : Str)), .string (Bs ([104, 101, 97, 100, 101, 114] : Str)), .string (Bs ([104, 103, 114, 111, 117, 112] : Str)), .string (Bs ([104, 114] : Str)), .string (Bs ([104, 116, 109, 108] : Str)), .string (Bs ([105, 102, 114, 97, 109, 101] : Str)), .string (Bs ([105, 109, 103] : Str)), .string (Bs ([105, 110, 112, 117, 116] : Str)), .string (Bs ([108, 105] : Str)), .string (Bs ([108, 105, 110, 107] : Str)), .string (Bs ([109, 97, 105, 110] : Str)), .string (Bs ([109, 97, 114, 113, 117, 101, 101] : Str)), .string (Bs ([109, 101, 110, 117] : Str)), .string (Bs ([109, 101, 116, 97] : Str)), .string (Bs ([110, 97, 118] : Str)), .string (Bs ([110, 111, 101, 109, 98, 101, 100] : Str)), .string (Bs ([110, 111, 102, 114, 97, 109, 101, 115] : Str)), .string (Bs ([111, 98, 106, 101, 99, 116] : Str)), .string (Bs ([111, 108] : Str)), .string (Bs ([112] : Str)), .string (Bs ([112, 97, 114, 97, 109] : Str)), .string (Bs ([112, 114, 101] : Str)), .string (Bs ([115, 99, 114, 105, 112, 116] : Str)), .string (Bs ([115, 101, 97, 114, 99, 104] : Str)), .string (Bs ([115, 101, 99, 116, 105, 111, 110] : Str)), .string (Bs ([115, 101, 108, 101, 99, 116] : Str)), .string (Bs ([115, 111, 117, 114, 99, 101] : Str)), .string (Bs ([115, 116, 121, 108, 101] : Str)), .string (Bs ([115, 117, 109, 109, 97, 114, 121] : Str)), .string (Bs ([116, 97, 98, 108, 101] : Str)), .string (Bs ([116, 98, 111, 100, 121] : Str)), .string (Bs ([116, 100] : Str)), .string (Bs ([116, 101, 120, 116, 97, 114, 101, 97] : Str)), .string (Bs ([116, 102, 111, 111, 116] : Str)), .string (Bs ([116, 104] : Str)), .string (Bs ([116, 104, 101, 97, 100] : Str)), .string (Bs ([116, 105, 116, 108, 101] : Str)), .string (Bs ([116, 114] : Str)), .string (Bs ([116, 114, 97, 99, 107] : Str)), .string (Bs ([117, 108] : Str)), .string (Bs ([119, 98, 114] : Str)), .string (Bs ([120, 109, 112] : Str))]),
R (Sl.v (Sl.mk (some ⟨B_28, 0, none⟩) 74 74)) w29) ∧
((¬ (sort_1 = 2)) →
((sort_1 = 3) →
∀ (w46 : World) (B_45 : Nat), New w B_45 w46 → Chg [] w w46 →
∀ (_ : Box w46 B_45 9 [.string (Bs ([97] : Str)), .string (Bs ([98] : Str)), .string (Bs ([98, 105, 103] : Str)), .string (Bs ([99, 111, 100, 101] : Str)), .string (Bs ([101, 109] : Str)), .string (Bs ([102, 111, 110, 116] : Str)), .string (Bs ([105] : Str)), .string (Bs ([110, 111, 98, 114] : Str)), .string (Bs ([115] : Str)), .string (Bs ([115, 109, 97, 108, 108] : Str)), .string (Bs ([115, 116, 114, 105, 107, 101] : Str)), .string (Bs ([115, 116, 114, 111, 110, 103] : Str)), .string (Bs ([116, 116] : Str)), .string (Bs ([117] : Str))]),
R (Sl.v (Sl.mk (some ⟨B_45, 0, none⟩) 14 14)) w46) ∧
((¬ (sort_1 = 3)) →
((sort_1 = 4) →
∀ (w63 : World) (B_62 : Nat), New w B_62 w63 → Chg [] w w63 →
∀ (_ : Box w63 B_62 9 [.string (Bs ([100, 100] : Str)), .string (Bs ([100, 116] : Str)), .string (Bs ([108, 105] : Str)), .string (Bs ([111, 112, 116, 105, 111, 110] : Str)), .string (Bs ([112] : Str)), .string (Bs ([114, 112] : Str)), .string (Bs ([114, 116] : Str))]),
R (Sl.v (Sl.mk (some ⟨B_62, 0, none⟩) 7 7)) w63) ∧
((¬ (sort_1 = 4)) →
((sort_1 = 5) →
∀ (w80 : World) (B_79 : Nat), New w B_79 w80 → Chg [] w w80 →
∀ (_ : Box w80 B_79 9 [.string (Bs ([104, 49] : Str)), .string (Bs ([104, 50] : Str)), .string (Bs ([104, 51] : Str)), .string (Bs ([104, 52] : Str)), .string (Bs ([104, 53] : Str)), .string (Bs ([104, 54] : Str))]),
R (Sl.v (Sl.mk (some ⟨B_79, 0, none⟩) 6 6)) w80) ∧
((¬ (sort_1 = 5)) →
((sort_1 = 6) →
∀ (w97 : World) (B_96 : Nat), New w B_96 w97 → Chg [] w w97 →
∀ (_ : Box w97 B_96 9 [.string (Bs ([97, 100, 100, 114, 101, 115, 115] : Str)), .string (Bs ([97, 114, 116, 105, 99, 108, 101] : Str)), .string (Bs ([97, 115, 105, 100, 101] : Str)), .string (Bs ([98, 108, 111, 99, 107, 113, 117, 111, 116, 101] : Str)), .string (Bs ([99, 101, 110, 116, 101, 114] : Str)), .string (Bs ([100, 101, 116, 97, 105, 108, 115] : Str)), .string (Bs ([100, 105, 114] : Str)), .string (Bs ([100, 105, 118] : Str)), .string (Bs ([100, 108] : Str)), .string (Bs ([102, 105, 101, 108, 100, 115, 101, 116] : Str)), .string (Bs ([102, 105, 103, 99, 97, 112, 116, 105, 111, 110] : Str)), .string (Bs ([102, 105, 103, 117, 114, 101] : Str)), .string (Bs ([102, 111, 111, 116, 101, 114] : Str)), .string (Bs ([102, 111, 114, 109] : Str)), .string (Bs ([104, 101, 97, 100, 101, 114] : Str)), .string (Bs ([104, 103, 114, 111, 117, 112] : Str)), .string (Bs ([109, 97, 105, 110] : Str)), .string (Bs ([109, 101, 110, 117] : Str)), .string (Bs ([110, 97, 118] : Str)), .string (Bs ([111, 108] : Str)), .string (Bs ([112, 114, 101] : Str)), .string (Bs ([115, 101, 97, 114, 99, 104] : Str)), .string (Bs ([115, 101, 99, 116, 105, 111, 110] : Str)), .string (Bs ([115, 117, 109, 109, 97, 114, 121] : Str)), .string (Bs ([117, 108] : Str))]),
R (Sl.v (Sl.mk (some ⟨B_96, 0, none⟩) 25 25)) w97) ∧
((¬ (sort_1 = 6)) →
((sort_1 = 7) →
∀ (w114 : World) (B_113 : Nat), New w B_113 w114 → Chg [] w w114 →
∀ (_ : Box w114 B_113 9 [.string (Bs ([97, 112, 112, 108, 101, 116] : Str)), .string (Bs ([109, 97, 114, 113, 117, 101, 101] : Str)), .string (Bs ([111, 98, 106, 101, 99, 116] : Str))]),
R (Sl.v (Sl.mk (some ⟨B_113, 0, none⟩) 3 3)) w114) ∧
((¬ (sort_1 = 7)) →
((sort_1 = 8) →
∀ (w131 : World) (B_130 : Nat), New w B_130 w131 → Chg [] w w131 →
∀ (_ : Box w131 B_130 9 [.string (Bs ([98, 97, 115, 101] : Str)), .string (Bs ([108, 105, 110, 107] : Str)), .string (Bs ([109, 101, 116, 97] : Str)), .string (Bs ([116, 105, 116, 108, 101] : Str)), .string (Bs ([115, 116, 121, 108, 101] : Str)), .string (Bs ([115, 99, 114, 105, 112, 116] : Str)), .string (Bs ([110, 111, 102, 114, 97, 109, 101, 115] : Str))]),
R (Sl.v (Sl.mk (some ⟨B_130, 0, none⟩) 7 7)) w131) ∧
((¬ (sort_1 = 8)) →
R (Sl.v Sl.nil) w))))))))
set_option maxHeartbeats 1000000 in
set_option maxRecDepth 10000 in
theorem ref12_Sort.ok (sort_1 : Int) {R : Value → World → Prop} {w : World} (ht0 : ref12_Sort.vc sort_1 R w) : Calls Tryd.prog 8 #[.int .i64 sort_1] w (Ret R) := by
  refine enter [.int .i64 sort_1] Tryd.func8 rfl Tryd.ntmps8 rfl ?_
  intro a0 hA0
  unfold ref12_Sort.vc at ht0
  refine wp_seq ?_
  refine wp_region_lit ?_
  refine sq (opk_val hA0 rfl (r_assign rfl) fun a2 hA2 _ => ?_)
  refine sq_end ?_
  have hA3 := hA2.keep [(0, .int .i64 sort_1)] ⟨rfl, trivial⟩
  refine then_normal ?_
  refine wp_seq ?_
  refine wp_seq ?_
  refine wp_region_lit ?_
  refine sq (opk_val hA3 rfl (r_move (hA3.get rfl)) fun a4 hA4 _ => ?_)
  refine sq_end ?_
  have hA5 := hA4.keep [(3, .int .i64 sort_1)] ⟨rfl, trivial⟩
  refine then_normal ?_
  refine wp_block ?_
  refine wp_seq ?_
  refine wp_region_lit ?_
  refine sq (opk_val hA5 rfl (r_eql (hA5.get rfl) rfl) fun a6 hA6 _ => ?_)
  refine sq (opk_val hA6 rfl (r_assign (hA6.get rfl)) fun a7 hA7 _ => ?_)
  refine sq_end ?_
  have hA8 := hA7.keep [(3, .int .i64 sort_1), (4, .bool (decide (sort_1 = 1)))] ⟨rfl, rfl, trivial⟩
  refine then_normal ?_
  refine wp_cond_split (hA8.get rfl) (fun hc => ?_) (fun hc => ?_)
  · have ht9 := ht0.1 (of_decide_eq_true hc)
    clear hc
    refine wp_seq ?_
    refine wp_region_lit ?_
    refine sq (opk_new (fun B => .slice (some ⟨B, 0, none⟩) 14 14) hA8 rfl (r_buildSlice (vs := #[(0, .string (Bs ([97, 114, 101, 97] : Str))), (1, .string (Bs ([98, 97, 115, 101] : Str))), (2, .string (Bs ([98, 114] : Str))), (3, .string (Bs ([99, 111, 108] : Str))), (4, .string (Bs ([101, 109, 98, 101, 100] : Str))), (5, .string (Bs ([104, 114] : Str))), (6, .string (Bs ([105, 109, 103] : Str))), (7, .string (Bs ([105, 110, 112, 117, 116] : Str))), (8, .string (Bs ([108, 105, 110, 107] : Str))), (9, .string (Bs ([109, 101, 116, 97] : Str))), (10, .string (Bs ([112, 97, 114, 97, 109] : Str))), (11, .string (Bs ([115, 111, 117, 114, 99, 101] : Str))), (12, .string (Bs ([116, 114, 97, 99, 107] : Str))), (13, .string (Bs ([119, 98, 114] : Str)))]) (cs := [.string (Bs ([97, 114, 101, 97] : Str)), .string (Bs ([98, 97, 115, 101] : Str)), .string (Bs ([98, 114] : Str)), .string (Bs ([99, 111, 108] : Str)), .string (Bs ([101, 109, 98, 101, 100] : Str)), .string (Bs ([104, 114] : Str)), .string (Bs ([105, 109, 103] : Str)), .string (Bs ([105, 110, 112, 117, 116] : Str)), .string (Bs ([108, 105, 110, 107] : Str)), .string (Bs ([109, 101, 116, 97] : Str)), .string (Bs ([112, 97, 114, 97, 109] : Str)), .string (Bs ([115, 111, 117, 114, 99, 101] : Str)), .string (Bs ([116, 114, 97, 99, 107] : Str)), .string (Bs ([119, 98, 114] : Str))]) (map_arr2 (ml2_cons rfl (ml2_cons rfl (ml2_cons rfl (ml2_cons rfl (ml2_cons rfl (ml2_cons rfl (ml2_cons rfl (ml2_cons rfl (ml2_cons rfl (ml2_cons rfl (ml2_cons rfl (ml2_cons rfl (ml2_cons rfl (ml2_cons rfl (ml2_nil)))))))))))))))) Tryd.underlying22 ti_9 rfl rfl (by kernel_rfl)) fun a13 w12 B_11 hE14 hN15 hB16 hA13 _ => ?_)
    have hN17 : New w B_11 w12 := hN15
    have hC18 : Chg [] w w12 := hE14
    refine sq (opk_val hA13 rfl (r_assign (hA13.get rfl)) fun a19 hA19 _ => ?_)
    refine sq_end ?_
    have hA20 := hA19.keep [(2, Sl.v (Sl.mk (some ⟨B_11, 0, none⟩) 14 14))] ⟨rfl, trivial⟩
    refine then_normal ?_
    refine wp_ret ?_
    refine block_ret ?_
    refine then_ret ?_
    have ht21 := ht9 w12 B_11 hN17  hC18
    have ht22 := ht21 hB16
    exact res_all (vs := [Sl.v (Sl.mk (some ⟨B_11, 0, none⟩) 14 14)]) rfl hA20 ⟨res_of_tmp hA20 rfl, trivial⟩ ht22
  · have ht10 := ht0.2 (of_decide_eq_false hc)
    clear hc
    refine wp_seq ?_
    refine wp_region_lit ?_
    refine sq (opk_val hA8 rfl (r_eql (hA8.get rfl) rfl) fun a23 hA23 _ => ?_)
    refine sq (opk_val hA23 rfl (r_assign (hA23.get rfl)) fun a24 hA24 _ => ?_)
    refine sq_end ?_
    have hA25 := hA24.keep [(3, .int .i64 sort_1), (7, .bool (decide (sort_1 = 2)))] ⟨rfl, rfl, trivial⟩
    refine then_normal ?_
    refine wp_cond_split (hA25.get rfl) (fun hc => ?_) (fun hc => ?_)
    · have ht26 := ht10.1 (of_decide_eq_true hc)
      clear hc
      refine wp_seq ?_
      refine wp_region_lit ?_
      refine sq (opk_new (fun B => .slice (some ⟨B, 0, none⟩) 74 74) hA25 rfl (r_buildSlice (vs := #[(0, .string (Bs ([97, 100, 100, 114, 101, 115, 115] : Str))), (1, .string (Bs ([97, 112, 112, 108, 101, 116] : Str))), (2, .string (Bs ([97, 114, 101, 97] : Str))), (3, .string (Bs ([97, 114, 116, 105, 99, 108, 101] : Str))), (4, .string (Bs ([97, 115, 105, 100, 101] : Str))), (5, .string (Bs ([98, 97, 115, 101] : Str))), (6, .string (Bs ([98, 108, 111, 99, 107, 113, 117, 111, 116, 101] : Str))), (7, .string (Bs ([98, 111, 100, 121] : Str))), (8, .string (Bs ([98, 114] : Str))), (9, .string (Bs ([98, 117, 116, 116, 111, 110] : Str))), (10, .string (Bs ([99, 97, 112, 116, 105, 111, 110] : Str))), (11, .string (Bs ([99, 101, 110, 116, 101, 114] : Str))), (12, .string (Bs ([99, 111, 108] : Str))), (13, .string (Bs ([99, 111, 108, 103, 114, 111, 117, 112] : Str))), (14, .string (Bs ([100, 100] : Str))), (15, .string (Bs ([100, 101, 116, 97, 105, 108, 115] : Str))), (16, .string (Bs ([100, 105, 114] : Str))), (17, .string (Bs ([100, 105, 118] : Str))), (18, .string (Bs ([100, 108] : Str))), (19, .string (Bs ([100, 116] : Str))), (20, .string (Bs ([101, 109, 98, 101, 100] : Str))), (21, .string (Bs ([102, 105, 101, 108, 100, 115, 101, 116] : Str))), (22, .string (Bs ([102, 105, 103, 99, 97, 112, 116, 105, 111, 110] : Str))), (23, .string (Bs ([102, 105, 103, 117, 114, 101] : Str))), (24, .string (Bs ([102, 111, 111, 116, 101, 114] : Str))), (25, .string (Bs ([102, 111, 114, 109] : Str))), (26, .string (Bs ([104, 49] : Str))), (27, .string (Bs ([104, 50] : Str))), (28, .string (Bs ([104, 51] : Str))), (29, .string (Bs ([104, 52] : Str))), (30, .string (Bs ([104, 53] : Str))), (31, .string (Bs ([104, 54] : Str))), (32, .string (Bs ([104, 101, 97, 100] : Str))), (33, .string (Bs ([104, 101, 97, 100, 101, 114] : Str))), (34, .string (Bs ([104, 103, 114, 111, 117, 112] : Str))), (35, .string (Bs ([104, 114] : Str))), (36, .string (Bs ([104, 116, 109, 108] : Str))), (37, .string (Bs ([105, 102, 114, 97, 109, 101] : Str))), (38, .string (Bs ([105, 109, 103] : Str))), (39, .string (Bs ([105, 110, 112, 117, 116] : Str))), (40, .string (Bs ([108, 105] : Str))), (41, .string (Bs ([108, 105, 110, 107] : Str))), (42, .string (Bs ([109, 97, 105, 110] : Str))), (43, .string (Bs ([109, 97, 114, 113, 117, 101, 101] : Str))), (44, .string (Bs ([109, 101, 110, 117] : Str))), (45, .string (Bs ([109, 101, 116, 97] : Str))), (46, .string (Bs ([110, 97, 118] : Str))), (47, .string (Bs ([110, 111, 101, 109, 98, 101, 100] : Str))), (48, .string (Bs ([110, 111, 102, 114, 97, 109, 101, 115] : Str))), (49, .string (Bs ([111, 98, 106, 101, 99, 116] : Str))), (50, .string (Bs ([111, 108] : Str))), (51, .string (Bs ([112] : Str))), (52, .string (Bs ([112, 97, 114, 97, 109] : Str))), (53, .string (Bs ([112, 114, 101] : Str))), (54, .string (Bs ([115, 99, 114, 105, 112, 116] : Str))), (55, .string (Bs ([115, 101, 97, 114, 99, 104] : Str))), (56, .string (Bs ([115, 101, 99, 116, 105, 111, 110] : Str))), (57, .string (Bs ([115, 101, 108, 101, 99, 116] : Str))), (58, .string (Bs ([115, 111, 117, 114, 99, 101] : Str))), (59, .string (Bs ([115, 116, 121, 108, 101] : Str))), (60, .string (Bs ([115, 117, 109, 109, 97, 114, 121] : Str))), (61, .string (Bs ([116, 97, 98, 108, 101] : Str))), (62, .string (Bs ([116, 98, 111, 100, 121] : Str))), (63, .string (Bs ([116, 100] : Str))), (64, .string (Bs ([116, 101, 120, 116, 97, 114, 101, 97] : Str))), (65, .string (Bs ([116, 102, 111, 111, 116] : Str))), (66, .string (Bs ([116, 104] : Str))), (67, .string (Bs ([116, 104, 101, 97, 100] : Str))), (68, .string (Bs ([116, 105, 116, 108, 101] : Str))), (69, .string (Bs ([116, 114] : Str))), (70, .string (Bs ([116, 114, 97, 99, 107] : Str))), (71, .string (Bs ([117, 108] : Str))), (72, .string (Bs ([119, 98, 114] : Str))), (73, .string (Bs ([120, 109, 112] : Str)))]) (cs := [.string (Bs ([97, 100, 100, 114, 101, 115, 115] : Str)), .string (Bs ([97, 112, 112, 108, 101, 116] : Str)), .string (Bs ([97, 114, 101, 97] : Str)), .string (Bs ([97, 114, 116, 105, 99, 108, 101] : Str)), .string (Bs ([97, 115, 105, 100, 101] : Str)), .string (Bs ([98, 97, 115, 101] : Str)), .string (Bs ([98, 108, 111, 99, 107, 113, 117, 111, 116, 101] : Str)), .string (Bs ([98, 111, 100, 121] : Str)), .string (Bs ([98, 114] : Str)), .string (Bs ([98, 117, 116, 116, 111, 110] : Str)), .string (Bs ([99, 97, 112, 116, 105, 111, 110] : Str)), .string (Bs ([99, 101, 110, 116, 101, 114] : Str)), .string (Bs ([99, 111, 108] : Str)), .string (Bs ([99, 111, 108, 103, 114, 111, 117, 112] : Str)), .string (Bs ([100, 100] : Str)), .string (Bs ([100, 101, 116, 97, 105, 108, 115] : Str)), .string (Bs ([100, 105, 114] : Str)), .string (Bs ([100, 105, 118] : Str)), .string (Bs ([100, 108] : Str)), .string (Bs ([100, 116] : Str)), .string (Bs ([101, 109, 98, 101, 100] : Str)), .string (Bs ([102, 105, 101, 108, 100, 115, 101, 116] : Str)), .string (Bs ([102, 105, 103, 99, 97, 112, 116, 105, 111, 110] : Str)), .string (Bs ([102, 105, 103, 117, 114, 101] : Str)), .string (Bs ([102, 111, 111, 116, 101, 114] : Str)), .string (Bs ([102, 111, 114, 109] : Str)), .string (Bs ([104, 49] : Str)), .string (Bs ([104, 50] : Str)), .string (Bs ([104, 51] : Str)), .string (Bs ([104, 52] : Str)), .string (Bs ([104, 53] : Str)), .string (Bs ([104, 54] : Str)), .string (Bs ([104, 101, 97, 100] : Str)), .string (Bs ([104, 101, 97, 100, 101, 114] : Str)), .string (Bs ([104, 103, 114, 111, 117, 112] : Str)), .string (Bs ([104, 114] : Str)), .string (Bs ([104, 116, 109, 108] : Str)), .string (Bs ([105, 102, 114, 97, 109, 101] : Str)), .string (Bs ([105, 109, 103] : Str)), .string (Bs ([105, 110, 112, 117, 116] : Str)), .string (Bs ([108, 105] : Str)), .string (Bs ([108, 105, 110, 107] : Str)), .string (Bs ([109, 97, 105, 110] : Str)), .string (Bs ([109, 97, 114, 113, 117, 101, 101] : Str)), .string (Bs ([109, 101, 110, 117] : Str)), .string (Bs ([109, 101, 116, 97] : Str)), .string (Bs ([110, 97, 118] : Str)), .string (Bs ([110, 111, 101, 109, 98, 101, 100] : Str)), .string (Bs ([110, 111, 102, 114, 97, 109, 101, 115] : Str)), .string (Bs ([111, 98, 106, 101, 99, 116] : Str)), .string (Bs ([111, 108] : Str)), .string (Bs ([112] : Str)), .string (Bs ([112, 97, 114, 97, 109] : Str)), .string (Bs ([112, 114, 101] : Str)), .string (Bs ([115, 99, 114, 105, 112, 116] : Str)), .string (Bs ([115, 101, 97, 114, 99, 104] : Str)), .string (Bs ([115, 101, 99, 116, 105, 111, 110] : Str)), .string (Bs ([115, 101, 108, 101, 99, 116] : Str)), .string (Bs ([115, 111, 117, 114, 99, 101] : Str)), .string (Bs ([115, 116, 121, 108, 101] : Str)), .string (Bs ([115, 117, 109, 109, 97, 114, 121] : Str)), .string (Bs ([116, 97, 98, 108, 101] : Str)), .string (Bs ([116, 98, 111, 100, 121] : Str)), .string (Bs ([116, 100] : Str)), .string (Bs ([116, 101, 120, 116, 97, 114, 101, 97] : Str)), .string (Bs ([116, 102, 111, 111, 116] : Str)), .string (Bs ([116, 104] : Str)), .string (Bs ([116, 104, 101, 97, 100] : Str)), .string (Bs ([116, 105, 116, 108, 101] : Str)), .string (Bs ([116, 114] : Str)), .string (Bs ([116, 114, 97, 99, 107] : Str)), .string (Bs ([117, 108] : Str)), .string (Bs ([119, 98, 114] : Str)), .string (Bs ([120, 109, 112] : Str))]) (map_arr2 (ml2_cons rfl (ml2_cons rfl (ml2_cons rfl (ml2_cons rfl (ml2_cons rfl (ml2_cons rfl (ml2_cons rfl (ml2_cons rfl (ml2_cons rfl (ml2_cons rfl (ml2_cons rfl (ml2_cons rfl (ml2_cons rfl (ml2_cons rfl (ml2_cons rfl (ml2_cons rfl (ml2_cons rfl (ml2_cons rfl (ml2_cons rfl (ml2_cons rfl (ml2_cons rfl (ml2_cons rfl (ml2_cons rfl (ml2_cons rfl (ml2_cons rfl (ml2_cons rfl (ml2_cons rfl (ml2_cons rfl (ml2_cons rfl (ml2_cons rfl (ml2_cons rfl (ml2_cons rfl (ml2_cons rfl (ml2_cons rfl (ml2_cons rfl (ml2_cons rfl (ml2_cons rfl (ml2_cons rfl (ml2_cons rfl (ml2_cons rfl (ml2_cons rfl (ml2_cons rfl (ml2_cons rfl (ml2_cons rfl (ml2_cons rfl (ml2_cons rfl (ml2_cons rfl (ml2_cons rfl (ml2_cons rfl (ml2_cons rfl (ml2_cons rfl (ml2_cons rfl (ml2_cons rfl (ml2_cons rfl (ml2_cons rfl (ml2_cons rfl (ml2_cons rfl (ml2_cons rfl (ml2_cons rfl (ml2_cons rfl (ml2_cons rfl (ml2_cons rfl (ml2_cons rfl (ml2_cons rfl (ml2_cons rfl (ml2_cons rfl (ml2_cons rfl (ml2_cons rfl (ml2_cons rfl (ml2_cons rfl (ml2_cons rfl (ml2_cons rfl (ml2_cons rfl (ml2_cons rfl (ml2_nil)))))))))))))))))))))))))))))))))))))))))))))))))))))))))))))))))))))))))))) Tryd.underlying22 ti_9 rfl rfl (by kernel_rfl)) fun a30 w29 B_28 hE31 hN32 hB33 hA30 _ => ?_)
      have hN34 : New w B_28 w29 := hN32
      have hC35 : Chg [] w w29 := hE31
      refine sq (opk_val hA30 rfl (r_assign (hA30.get rfl)) fun a36 hA36 _ => ?_)
      refine sq_end ?_
      have hA37 := hA36.keep [(2, Sl.v (Sl.mk (some ⟨B_28, 0, none⟩) 74 74))] ⟨rfl, trivial⟩
      refine then_normal ?_
      refine wp_ret ?_
      refine block_ret ?_
      refine then_ret ?_
      have ht38 := ht26 w29 B_28 hN34  hC35
      have ht39 := ht38 hB33
      exact res_all (vs := [Sl.v (Sl.mk (some ⟨B_28, 0, none⟩) 74 74)]) rfl hA37 ⟨res_of_tmp hA37 rfl, trivial⟩ ht39
    · have ht27 := ht10.2 (of_decide_eq_false hc)
      clear hc
      refine wp_seq ?_
      refine wp_region_lit ?_
      refine sq (opk_val hA25 rfl (r_eql (hA25.get rfl) rfl) fun a40 hA40 _ => ?_)
      refine sq (opk_val hA40 rfl (r_assign (hA40.get rfl)) fun a41 hA41 _ => ?_)
      refine sq_end ?_
      have hA42 := hA41.keep [(3, .int .i64 sort_1), (10, .bool (decide (sort_1 = 3)))] ⟨rfl, rfl, trivial⟩
      refine then_normal ?_
      refine wp_cond_split (hA42.get rfl) (fun hc => ?_) (fun hc => ?_)
      · have ht43 := ht27.1 (of_decide_eq_true hc)
        clear hc
        refine wp_seq ?_
        refine wp_region_lit ?_
        refine sq (opk_new (fun B => .slice (some ⟨B, 0, none⟩) 14 14) hA42 rfl (r_buildSlice (vs := #[(0, .string (Bs ([97] : Str))), (1, .string (Bs ([98] : Str))), (2, .string (Bs ([98, 105, 103] : Str))), (3, .string (Bs ([99, 111, 100, 101] : Str))), (4, .string (Bs ([101, 109] : Str))), (5, .string (Bs ([102, 111, 110, 116] : Str))), (6, .string (Bs ([105] : Str))), (7, .string (Bs ([110, 111, 98, 114] : Str))), (8, .string (Bs ([115] : Str))), (9, .string (Bs ([115, 109, 97, 108, 108] : Str))), (10, .string (Bs ([115, 116, 114, 105, 107, 101] : Str))), (11, .string (Bs ([115, 116, 114, 111, 110, 103] : Str))), (12, .string (Bs ([116, 116] : Str))), (13, .string (Bs ([117] : Str)))]) (cs := [.string (Bs ([97] : Str)), .string (Bs ([98] : Str)), .string (Bs ([98, 105, 103] : Str)), .string (Bs ([99, 111, 100, 101] : Str)), .string (Bs ([101, 109] : Str)), .string (Bs ([102, 111, 110, 116] : Str)), .string (Bs ([105] : Str)), .string (Bs ([110, 111, 98, 114] : Str)), .string (Bs ([115] : Str)), .string (Bs ([115, 109, 97, 108, 108] : Str)), .string (Bs ([115, 116, 114, 105, 107, 101] : Str)), .string (Bs ([115, 116, 114, 111, 110, 103] : Str)), .string (Bs ([116, 116] : Str)), .string (Bs ([117] : Str))]) (map_arr2 (ml2_cons rfl (ml2_cons rfl (ml2_cons rfl (ml2_cons rfl (ml2_cons rfl (ml2_cons rfl (ml2_cons rfl (ml2_cons rfl (ml2_cons rfl (ml2_cons rfl (ml2_cons rfl (ml2_cons rfl (ml2_cons rfl (ml2_cons rfl (ml2_nil)))))))))))))))) Tryd.underlying22 ti_9 rfl rfl (by kernel_rfl)) fun a47 w46 B_45 hE48 hN49 hB50 hA47 _ => ?_)
        have hN51 : New w B_45 w46 := hN49
        have hC52 : Chg [] w w46 := hE48
        refine sq (opk_val hA47 rfl (r_assign (hA47.get rfl)) fun a53 hA53 _ => ?_)
        refine sq_end ?_
        have hA54 := hA53.keep [(2, Sl.v (Sl.mk (some ⟨B_45, 0, none⟩) 14 14))] ⟨rfl, trivial⟩
        refine then_normal ?_
        refine wp_ret ?_
        refine block_ret ?_
        refine then_ret ?_
        have ht55 := ht43 w46 B_45 hN51  hC52
        have ht56 := ht55 hB50
        exact res_all (vs := [Sl.v (Sl.mk (some ⟨B_45, 0, none⟩) 14 14)]) rfl hA54 ⟨res_of_tmp hA54 rfl, trivial⟩ ht56
      · have ht44 := ht27.2 (of_decide_eq_false hc)
        clear hc
        refine wp_seq ?_
        refine wp_region_lit ?_
        refine sq (opk_val hA42 rfl (r_eql (hA42.get rfl) rfl) fun a57 hA57 _ => ?_)
        refine sq (opk_val hA57 rfl (r_assign (hA57.get rfl)) fun a58 hA58 _ => ?_)
        refine sq_end ?_
        have hA59 := hA58.keep [(3, .int .i64 sort_1), (13, .bool (decide (sort_1 = 4)))] ⟨rfl, rfl, trivial⟩
        refine then_normal ?_
        refine wp_cond_split (hA59.get rfl) (fun hc => ?_) (fun hc => ?_)
        · have ht60 := ht44.1 (of_decide_eq_true hc)
          clear hc
          refine wp_seq ?_
          refine wp_region_lit ?_
          refine sq (opk_new (fun B => .slice (some ⟨B, 0, none⟩) 7 7) hA59 rfl (r_buildSlice (vs := #[(0, .string (Bs ([100, 100] : Str))), (1, .string (Bs ([100, 116] : Str))), (2, .string (Bs ([108, 105] : Str))), (3, .string (Bs ([111, 112, 116, 105, 111, 110] : Str))), (4, .string (Bs ([112] : Str))), (5, .string (Bs ([114, 112] : Str))), (6, .string (Bs ([114, 116] : Str)))]) (cs := [.string (Bs ([100, 100] : Str)), .string (Bs ([100, 116] : Str)), .string (Bs ([108, 105] : Str)), .string (Bs ([111, 112, 116, 105, 111, 110] : Str)), .string (Bs ([112] : Str)), .string (Bs ([114, 112] : Str)), .string (Bs ([114, 116] : Str))]) (map_arr2 (ml2_cons rfl (ml2_cons rfl (ml2_cons rfl (ml2_cons rfl (ml2_cons rfl (ml2_cons rfl (ml2_cons rfl (ml2_nil))))))))) Tryd.underlying22 ti_9 rfl rfl (by kernel_rfl)) fun a64 w63 B_62 hE65 hN66 hB67 hA64 _ => ?_)
          have hN68 : New w B_62 w63 := hN66
          have hC69 : Chg [] w w63 := hE65
          refine sq (opk_val hA64 rfl (r_assign (hA64.get rfl)) fun a70 hA70 _ => ?_)
          refine sq_end ?_
          have hA71 := hA70.keep [(2, Sl.v (Sl.mk (some ⟨B_62, 0, none⟩) 7 7))] ⟨rfl, trivial⟩
          refine then_normal ?_
          refine wp_ret ?_
          refine block_ret ?_
          refine then_ret ?_
          have ht72 := ht60 w63 B_62 hN68  hC69
          have ht73 := ht72 hB67
          exact res_all (vs := [Sl.v (Sl.mk (some ⟨B_62, 0, none⟩) 7 7)]) rfl hA71 ⟨res_of_tmp hA71 rfl, trivial⟩ ht73
        · have ht61 := ht44.2 (of_decide_eq_false hc)
          clear hc
          refine wp_seq ?_
          refine wp_region_lit ?_
          refine sq (opk_val hA59 rfl (r_eql (hA59.get rfl) rfl) fun a74 hA74 _ => ?_)
          refine sq (opk_val hA74 rfl (r_assign (hA74.get rfl)) fun a75 hA75 _ => ?_)
          refine sq_end ?_
          have hA76 := hA75.keep [(3, .int .i64 sort_1), (16, .bool (decide (sort_1 = 5)))] ⟨rfl, rfl, trivial⟩
          refine then_normal ?_
          refine wp_cond_split (hA76.get rfl) (fun hc => ?_) (fun hc => ?_)
          · have ht77 := ht61.1 (of_decide_eq_true hc)
            clear hc
            refine wp_seq ?_
            refine wp_region_lit ?_
            refine sq (opk_new (fun B => .slice (some ⟨B, 0, none⟩) 6 6) hA76 rfl (r_buildSlice (vs := #[(0, .string (Bs ([104, 49] : Str))), (1, .string (Bs ([104, 50] : Str))), (2, .string (Bs ([104, 51] : Str))), (3, .string (Bs ([104, 52] : Str))), (4, .string (Bs ([104, 53] : Str))), (5, .string (Bs ([104, 54] : Str)))]) (cs := [.string (Bs ([104, 49] : Str)), .string (Bs ([104, 50] : Str)), .string (Bs ([104, 51] : Str)), .string (Bs ([104, 52] : Str)), .string (Bs ([104, 53] : Str)), .string (Bs ([104, 54] : Str))]) (map_arr2 (ml2_cons rfl (ml2_cons rfl (ml2_cons rfl (ml2_cons rfl (ml2_cons rfl (ml2_cons rfl (ml2_nil)))))))) Tryd.underlying22 ti_9 rfl rfl (by kernel_rfl)) fun a81 w80 B_79 hE82 hN83 hB84 hA81 _ => ?_)
            have hN85 : New w B_79 w80 := hN83
            have hC86 : Chg [] w w80 := hE82
            refine sq (opk_val hA81 rfl (r_assign (hA81.get rfl)) fun a87 hA87 _ => ?_)
            refine sq_end ?_
            have hA88 := hA87.keep [(2, Sl.v (Sl.mk (some ⟨B_79, 0, none⟩) 6 6))] ⟨rfl, trivial⟩
            refine then_normal ?_
            refine wp_ret ?_
            refine block_ret ?_
            refine then_ret ?_
            have ht89 := ht77 w80 B_79 hN85  hC86
            have ht90 := ht89 hB84
            exact res_all (vs := [Sl.v (Sl.mk (some ⟨B_79, 0, none⟩) 6 6)]) rfl hA88 ⟨res_of_tmp hA88 rfl, trivial⟩ ht90
          · have ht78 := ht61.2 (of_decide_eq_false hc)
            clear hc
            refine wp_seq ?_
            refine wp_region_lit ?_
            refine sq (opk_val hA76 rfl (r_eql (hA76.get rfl) rfl) fun a91 hA91 _ => ?_)
            refine sq (opk_val hA91 rfl (r_assign (hA91.get rfl)) fun a92 hA92 _ => ?_)
            refine sq_end ?_
            have hA93 := hA92.keep [(3, .int .i64 sort_1), (19, .bool (decide (sort_1 = 6)))] ⟨rfl, rfl, trivial⟩
            refine then_normal ?_
            refine wp_cond_split (hA93.get rfl) (fun hc => ?_) (fun hc => ?_)
            · have ht94 := ht78.1 (of_decide_eq_true hc)
              clear hc
              refine wp_seq ?_
              refine wp_region_lit ?_
              refine sq (opk_new (fun B => .slice (some ⟨B, 0, none⟩) 25 25) hA93 rfl (r_buildSlice (vs := #[(0, .string (Bs ([97, 100, 100, 114, 101, 115, 115] : Str))), (1, .string (Bs ([97, 114, 116, 105, 99, 108, 101] : Str))), (2, .string (Bs ([97, 115, 105, 100, 101] : Str))), (3, .string (Bs ([98, 108, 111, 99, 107, 113, 117, 111, 116, 101] : Str))), (4, .string (Bs ([99, 101, 110, 116, 101, 114] : Str))), (5, .string (Bs ([100, 101, 116, 97, 105, 108, 115] : Str))), (6, .string (Bs ([100, 105, 114] : Str))), (7, .string (Bs ([100, 105, 118] : Str))), (8, .string (Bs ([100, 108] : Str))), (9, .string (Bs ([102, 105, 101, 108, 100, 115, 101, 116] : Str))), (10, .string (Bs ([102, 105, 103, 99, 97, 112, 116, 105, 111, 110] : Str))), (11, .string (Bs ([102, 105, 103, 117, 114, 101] : Str))), (12, .string (Bs ([102, 111, 111, 116, 101, 114] : Str))), (13, .string (Bs ([102, 111, 114, 109] : Str))), (14, .string (Bs ([104, 101, 97, 100, 101, 114] : Str))), (15, .string (Bs ([104, 103, 114, 111, 117, 112] : Str))), (16, .string (Bs ([109, 97, 105, 110] : Str))), (17, .string (Bs ([109, 101, 110, 117] : Str))), (18, .string (Bs ([110, 97, 118] : Str))), (19, .string (Bs ([111, 108] : Str))), (20, .string (Bs ([112, 114, 101] : Str))), (21, .string (Bs ([115, 101, 97, 114, 99, 104] : Str))), (22, .string (Bs ([115, 101, 99, 116, 105, 111, 110] : Str))), (23, .string (Bs ([115, 117, 109, 109, 97, 114, 121] : Str))), (24, .string (Bs ([117, 108] : Str)))]) (cs := [.string (Bs ([97, 100, 100, 114, 101, 115, 115] : Str)), .string (Bs ([97, 114, 116, 105, 99, 108, 101] : Str)), .string (Bs ([97, 115, 105, 100, 101] : Str)), .string (Bs ([98, 108, 111, 99, 107, 113, 117, 111, 116, 101] : Str)), .string (Bs ([99, 101, 110, 116, 101, 114] : Str)), .string (Bs ([100, 101, 116, 97, 105, 108, 115] : Str)), .string (Bs ([100, 105, 114] : Str)), .string (Bs ([100, 105, 118] : Str)), .string (Bs ([100, 108] : Str)), .string (Bs ([102, 105, 101, 108, 100, 115, 101, 116] : Str)), .string (Bs ([102, 105, 103, 99, 97, 112, 116, 105, 111, 110] : Str)), .string (Bs ([102, 105, 103, 117, 114, 101] : Str)), .string (Bs ([102, 111, 111, 116, 101, 114] : Str)), .string (Bs ([102, 111, 114, 109] : Str)), .string (Bs ([104, 101, 97, 100, 101, 114] : Str)), .string (Bs ([104, 103, 114, 111, 117, 112] : Str)), .string (Bs ([109, 97, 105, 110] : Str)), .string (Bs ([109, 101, 110, 117] : Str)), .string (Bs ([110, 97, 118] : Str)), .string (Bs ([111, 108] : Str)), .string (Bs ([112, 114, 101] : Str)), .string (Bs ([115, 101, 97, 114, 99, 104] : Str)), .string (Bs ([115, 101, 99, 116, 105, 111, 110] : Str)), .string (Bs ([115, 117, 109, 109, 97, 114, 121] : Str)), .string (Bs ([117, 108] : Str))]) (map_arr2 (ml2_cons rfl (ml2_cons rfl (ml2_cons rfl (ml2_cons rfl (ml2_cons rfl (ml2_cons rfl (ml2_cons rfl (ml2_cons rfl (ml2_cons rfl (ml2_cons rfl (ml2_cons rfl (ml2_cons rfl (ml2_cons rfl (ml2_cons rfl (ml2_cons rfl (ml2_cons rfl (ml2_cons rfl (ml2_cons rfl (ml2_cons rfl (ml2_cons rfl (ml2_cons rfl (ml2_cons rfl (ml2_cons rfl (ml2_cons rfl (ml2_cons rfl (ml2_nil))))))))))))))))))))))))))) Tryd.underlying22 ti_9 rfl rfl (by kernel_rfl)) fun a98 w97 B_96 hE99 hN100 hB101 hA98 _ => ?_)
              have hN102 : New w B_96 w97 := hN100
              have hC103 : Chg [] w w97 := hE99
              refine sq (opk_val hA98 rfl (r_assign (hA98.get rfl)) fun a104 hA104 _ => ?_)
              refine sq_end ?_
              have hA105 := hA104.keep [(2, Sl.v (Sl.mk (some ⟨B_96, 0, none⟩) 25 25))] ⟨rfl, trivial⟩
              refine then_normal ?_
              refine wp_ret ?_
              refine block_ret ?_
              refine then_ret ?_
              have ht106 := ht94 w97 B_96 hN102  hC103
              have ht107 := ht106 hB101
              exact res_all (vs := [Sl.v (Sl.mk (some ⟨B_96, 0, none⟩) 25 25)]) rfl hA105 ⟨res_of_tmp hA105 rfl, trivial⟩ ht107
            · have ht95 := ht78.2 (of_decide_eq_false hc)
              clear hc
              refine wp_seq ?_
              refine wp_region_lit ?_
              refine sq (opk_val hA93 rfl (r_eql (hA93.get rfl) rfl) fun a108 hA108 _ => ?_)
              refine sq (opk_val hA108 rfl (r_assign (hA108.get rfl)) fun a109 hA109 _ => ?_)
              refine sq_end ?_
              have hA110 := hA109.keep [(3, .int .i64 sort_1), (22, .bool (decide (sort_1 = 7)))] ⟨rfl, rfl, trivial⟩
              refine then_normal ?_
              refine wp_cond_split (hA110.get rfl) (fun hc => ?_) (fun hc => ?_)
              · have ht111 := ht95.1 (of_decide_eq_true hc)
                clear hc
                refine wp_seq ?_
                refine wp_region_lit ?_
                refine sq (opk_new (fun B => .slice (some ⟨B, 0, none⟩) 3 3) hA110 rfl (r_buildSlice (vs := #[(0, .string (Bs ([97, 112, 112, 108, 101, 116] : Str))), (1, .string (Bs ([109, 97, 114, 113, 117, 101, 101] : Str))), (2, .string (Bs ([111, 98, 106, 101, 99, 116] : Str)))]) (cs := [.string (Bs ([97, 112, 112, 108, 101, 116] : Str)), .string (Bs ([109, 97, 114, 113, 117, 101, 101] : Str)), .string (Bs ([111, 98, 106, 101, 99, 116] : Str))]) (map_arr2 (ml2_cons rfl (ml2_cons rfl (ml2_cons rfl (ml2_nil))))) Tryd.underlying22 ti_9 rfl rfl (by kernel_rfl)) fun a115 w114 B_113 hE116 hN117 hB118 hA115 _ => ?_)
                have hN119 : New w B_113 w114 := hN117
                have hC120 : Chg [] w w114 := hE116
                refine sq (opk_val hA115 rfl (r_assign (hA115.get rfl)) fun a121 hA121 _ => ?_)
                refine sq_end ?_
                have hA122 := hA121.keep [(2, Sl.v (Sl.mk (some ⟨B_113, 0, none⟩) 3 3))] ⟨rfl, trivial⟩
                refine then_normal ?_
                refine wp_ret ?_
                refine block_ret ?_
                refine then_ret ?_
                have ht123 := ht111 w114 B_113 hN119  hC120
                have ht124 := ht123 hB118
                exact res_all (vs := [Sl.v (Sl.mk (some ⟨B_113, 0, none⟩) 3 3)]) rfl hA122 ⟨res_of_tmp hA122 rfl, trivial⟩ ht124
              · have ht112 := ht95.2 (of_decide_eq_false hc)
                clear hc
                refine wp_seq ?_
                refine wp_region_lit ?_
                refine sq (opk_val hA110 rfl (r_eql (hA110.get rfl) rfl) fun a125 hA125 _ => ?_)
                refine sq (opk_val hA125 rfl (r_assign (hA125.get rfl)) fun a126 hA126 _ => ?_)
                refine sq_end ?_
                have hA127 := hA126.keep [(25, .bool (decide (sort_1 = 8)))] ⟨rfl, trivial⟩
                refine then_normal ?_
                refine wp_cond_split (hA127.get rfl) (fun hc => ?_) (fun hc => ?_)
                · have ht128 := ht112.1 (of_decide_eq_true hc)
                  clear hc
                  refine wp_seq ?_
                  refine wp_region_lit ?_
                  refine sq (opk_new (fun B => .slice (some ⟨B, 0, none⟩) 7 7) hA127 rfl (r_buildSlice (vs := #[(0, .string (Bs ([98, 97, 115, 101] : Str))), (1, .string (Bs ([108, 105, 110, 107] : Str))), (2, .string (Bs ([109, 101, 116, 97] : Str))), (3, .string (Bs ([116, 105, 116, 108, 101] : Str))), (4, .string (Bs ([115, 116, 121, 108, 101] : Str))), (5, .string (Bs ([115, 99, 114, 105, 112, 116] : Str))), (6, .string (Bs ([110, 111, 102, 114, 97, 109, 101, 115] : Str)))]) (cs := [.string (Bs ([98, 97, 115, 101] : Str)), .string (Bs ([108, 105, 110, 107] : Str)), .string (Bs ([109, 101, 116, 97] : Str)), .string (Bs ([116, 105, 116, 108, 101] : Str)), .string (Bs ([115, 116, 121, 108, 101] : Str)), .string (Bs ([115, 99, 114, 105, 112, 116] : Str)), .string (Bs ([110, 111, 102, 114, 97, 109, 101, 115] : Str))]) (map_arr2 (ml2_cons rfl (ml2_cons rfl (ml2_cons rfl (ml2_cons rfl (ml2_cons rfl (ml2_cons rfl (ml2_cons rfl (ml2_nil))))))))) Tryd.underlying22 ti_9 rfl rfl (by kernel_rfl)) fun a132 w131 B_130 hE133 hN134 hB135 hA132 _ => ?_)
                  have hN136 : New w B_130 w131 := hN134
                  have hC137 : Chg [] w w131 := hE133
                  refine sq (opk_val hA132 rfl (r_assign (hA132.get rfl)) fun a138 hA138 _ => ?_)
                  refine sq_end ?_
                  have hA139 := hA138.keep [(2, Sl.v (Sl.mk (some ⟨B_130, 0, none⟩) 7 7))] ⟨rfl, trivial⟩
                  refine then_normal ?_
                  refine wp_ret ?_
                  refine block_ret ?_
                  refine then_ret ?_
                  have ht140 := ht128 w131 B_130 hN136  hC137
                  have ht141 := ht140 hB135
                  exact res_all (vs := [Sl.v (Sl.mk (some ⟨B_130, 0, none⟩) 7 7)]) rfl hA139 ⟨res_of_tmp hA139 rfl, trivial⟩ ht141
                · have ht129 := ht112.2 (of_decide_eq_false hc)
                  clear hc
                  refine wp_skip ?_
                  refine block_normal ?_
                  refine then_normal ?_
                  refine wp_seq ?_
                  refine wp_region_lit ?_
                  refine sq (opk_val hA127 rfl (r_assign rfl) fun a142 hA142 _ => ?_)
                  refine sq_end ?_
                  have hA143 := hA142.keep [(2, Sl.v Sl.nil)] ⟨rfl, trivial⟩
                  refine then_normal ?_
                  refine wp_ret ?_
                  exact res_all (vs := [Sl.v Sl.nil]) rfl hA143 ⟨res_of_tmp hA143 rfl, trivial⟩ ht129

/-- The condition of topiary/topiaryref12.Is. -/
def ref12_Is.vc (name_1 : Str) (sort_2 : Int) (R : Value → World → Prop) (w : World) : Prop :=
CallK Tryd.prog 8 #[.int .i64 sort_2] w [] (fun v w8 => ∃ (r_6 : Sl), v = Sl.v r_6 ∧
CallK Tryd.prog 22 #[Sl.v r_6, .string (Bs name_1)] w8 [] (fun v w17 => ∃ (r_15 : Bool), v = .bool r_15 ∧
R (.bool r_15) w17))
set_option maxHeartbeats 1000000 in
set_option maxRecDepth 10000 in
theorem ref12_Is.ok (name_1 : Str) (sort_2 : Int) {R : Value → World → Prop} {w : World} (ht0 : ref12_Is.vc name_1 sort_2 R w) : Calls Tryd.prog 10 #[.string (Bs name_1), .int .i64 sort_2] w (Ret R) := by
  refine enter [.string (Bs name_1), .int .i64 sort_2] Tryd.func10 rfl Tryd.ntmps10 rfl ?_
  intro a0 hA0
  unfold ref12_Is.vc at ht0
  refine wp_seq ?_
  refine wp_region_lit ?_
  refine sq (opk_val hA0 rfl (r_assign rfl) fun a3 hA3 _ => ?_)
  refine sq_end ?_
  have hA4 := hA3.keep [(0, .string (Bs name_1)), (1, .int .i64 sort_2)] ⟨rfl, rfl, trivial⟩
  refine then_normal ?_
  refine wp_seq ?_
  refine wp_region_lit ?_
  refine sq (opk_val hA4 rfl (r_move (hA4.get rfl)) fun a5 hA5 _ => ?_)
  refine sq (opk_call hA5 rfl (r_call (args := #[.int .i64 sort_2]) Tryd.func8 (by decide) rfl (map_arr (ml_cons (hA5.get rfl) ml_nil)) rfl) ht0 fun a7 v13 w8 hA7 _ hn10 hz11 hK12 => ?_)
  obtain ⟨r_6, rfl, ht9⟩ := hK12
  refine sq (opk_val hA7 rfl (r_move (hA7.get rfl)) fun a14 hA14 _ => ?_)
  refine sq (opk_call hA14 rfl (r_call (args := #[Sl.v r_6, .string (Bs name_1)]) Tryd.func22 (by decide) rfl (map_arr (ml_cons (hA14.get rfl) (ml_cons (hA14.get rfl) ml_nil))) rfl) ht9 fun a16 v22 w17 hA16 _ hn19 hz20 hK21 => ?_)
  obtain ⟨r_15, rfl, ht18⟩ := hK21
  refine sq (opk_val hA16 rfl (r_assign (hA16.get rfl)) fun a23 hA23 _ => ?_)
  refine sq_end ?_
  have hA24 := hA23.keep [(4, .bool r_15)] ⟨rfl, trivial⟩
  refine then_normal ?_
  refine wp_ret ?_
  exact res_all (vs := [.bool r_15]) rfl hA24 ⟨res_of_tmp hA24 rfl, trivial⟩ ht18

/-- The condition of topiary/topiaryref12.In. -/
def ref12_In.vc (open_1 : Sl) (name_2 : Str) (scope_3 : Int) (R : Value → World → Prop) (w : World) : Prop :=
(I64 ((open_1.n : Int) - 1)) ∧
∃ (J_15 : Int → World → Prop) (mu_16 : Int → World → Nat),
J_15 ((open_1.n : Int) - 1) w ∧
(∀ (i_13 : Int) (w14 : World), J_15 i_13 w14 →
((0 ≤ i_13) →
((0 : Int) ≤ i_13 ∧ i_13 < (open_1.n : Int)) ∧ ∃ p_84 : Addr, open_1.a = some p_84 ∧
∃ (x_90 : Str), (w14.cell? (p_84.add (i_13.toNat * 1)) = some (.string (Bs x_90))) ∧
((x_90 = name_2) →
R (.bool true) w14) ∧
((¬ (x_90 = name_2)) →
((0 : Int) ≤ i_13 ∧ i_13 < (open_1.n : Int)) ∧ ∃ p_102 : Addr, open_1.a = some p_102 ∧
∃ (x_108 : Str), (w14.cell? (p_102.add (i_13.toNat * 1)) = some (.string (Bs x_108))) ∧
CallK Tryd.prog 24 #[.string (Bs x_108), .int .i64 scope_3] w14 [] (fun v w114 => ∃ (r_112 : Bool), v = .bool r_112 ∧
((r_112 = true) →
R (.bool false) w114) ∧
((r_112 = false) →
(I64 (i_13 - 1)) ∧
J_15 (i_13 - 1) w114 ∧ mu_16 (i_13 - 1) w114 < mu_16 i_13 w14)))) ∧
((¬ (0 ≤ i_13)) →
R (.bool false) w14))
set_option maxHeartbeats 1000000 in
set_option maxRecDepth 10000 in
theorem ref12_In.ok (open_1 : Sl) (name_2 : Str) (scope_3 : Int) {R : Value → World → Prop} {w : World} (ht0 : ref12_In.vc open_1 name_2 scope_3 R w) : Calls Tryd.prog 15 #[Sl.v open_1, .string (Bs name_2), .int .i64 scope_3] w (Ret R) := by
  refine enter [Sl.v open_1, .string (Bs name_2), .int .i64 scope_3] Tryd.func15 rfl Tryd.ntmps15 rfl ?_
  intro a0 hA0
  unfold ref12_In.vc at ht0
  refine wp_seq ?_
  refine wp_region_lit ?_
  refine sq (opk_val hA0 rfl (r_assign rfl) fun a4 hA4 _ => ?_)
  refine sq_end ?_
  have hA5 := hA4.keep [(0, Sl.v open_1), (1, .string (Bs name_2)), (2, .int .i64 scope_3)] ⟨rfl, rfl, rfl, trivial⟩
  refine then_normal ?_
  refine wp_seq ?_
  refine wp_seq ?_
  refine wp_region_lit ?_
  refine sq (opk_val hA5 rfl (r_move (hA5.get rfl)) fun a6 hA6 _ => ?_)
  refine sq (opk_val hA6 rfl (r_len (hA6.get rfl) Tryd.underlying22) fun a7 hA7 _ => ?_)
  obtain ⟨hS9, ht10⟩ := ht0
  refine sq (opk_val hA7 rfl (r_subI (hA7.get rfl) rfl hS9) fun a8 hA8 _ => ?_)
  refine sq (opk_val hA8 rfl (r_assign (hA8.get rfl)) fun a11 hA11 _ => ?_)
  refine sq_end ?_
  have hA12 := hA11.keep [(0, Sl.v open_1), (1, .string (Bs name_2)), (2, .int .i64 scope_3), (7, .int .i64 ((open_1.n : Int) - 1))] ⟨rfl, rfl, rfl, rfl, trivial⟩
  refine then_normal ?_
  refine wp_block ?_
  obtain ⟨J_15, mu_16, h074, ht73⟩ := ht10
  refine wp_loop_st (σ := Int × World) (fun s a w => Ag 27 a [(0, Sl.v open_1), (1, .string (Bs name_2)), (2, .int .i64 scope_3), (7, .int .i64 s.1)] ∧ w = s.2 ∧ J_15 s.1 s.2) (fun s => mu_16 s.1 s.2) ((open_1.n : Int) - 1, w) ⟨hA12.keep [(0, Sl.v open_1), (1, .string (Bs name_2)), (2, .int .i64 scope_3), (7, .int .i64 ((open_1.n : Int) - 1))] ⟨rfl, rfl, rfl, rfl, trivial⟩, rfl, h074⟩ ?_
  rintro ⟨i_13, w14⟩ a72 w_ ⟨hA72, hw_, hJ76⟩
  have hw_ : w14 = w_ := hw_.symm
  subst hw_
  have ht75 := ht73 i_13 _ hJ76
  refine wp_seq ?_
  refine wp_seq ?_
  refine wp_region_lit ?_
  refine sq (opk_val hA72 rfl (r_move (hA72.get rfl)) fun a77 hA77 _ => ?_)
  refine sq (opk_val hA77 rfl (r_geq (hA77.get rfl) rfl) fun a78 hA78 _ => ?_)
  refine sq_end ?_
  have hA79 := hA78.keep [(0, Sl.v open_1), (1, .string (Bs name_2)), (2, .int .i64 scope_3), (7, .int .i64 i_13), (12, .bool (decide (0 ≤ i_13)))] ⟨rfl, rfl, rfl, rfl, rfl, trivial⟩
  refine then_normal ?_
  refine wp_cond_split (hA79.get rfl) (fun hc => ?_) (fun hc => ?_)
  · have ht80 := ht75.1 (of_decide_eq_true hc)
    clear hc
    refine wp_skip ?_
    refine then_normal ?_
    refine wp_seq ?_
    refine wp_block ?_
    refine wp_seq ?_
    refine wp_seq ?_
    refine wp_region_lit ?_
    refine sq (opk_val hA79 rfl (r_move (hA79.get rfl)) fun a82 hA82 _ => ?_)
    refine sq (opk_val hA82 rfl (r_move (hA82.get rfl)) fun a83 hA83 _ => ?_)
    obtain ⟨hb85, p_84, hp86, ht87⟩ := ht80
    refine sq (opk_val hA83 rfl (r_indexAddr (hA83.get rfl) (hA83.get rfl) Tryd.underlying22 ti_9 hb85 hp86) fun a88 hA88 _ => ?_)
    obtain ⟨x_90, hx91, ht92⟩ := ht87
    refine sq (opk_val hA88 rfl (r_load1 Tryd.underlying9 rfl (hA88.get rfl) hx91) fun a89 hA89 _ => ?_)
    refine sq (opk_val hA89 rfl (r_move (hA89.get rfl)) fun a93 hA93 _ => ?_)
    refine sq (opk_val hA93 rfl (r_seql (hA93.get rfl) (hA93.get rfl)) fun a94 hA94 _ => ?_)
    refine sq_end ?_
    have hA95 := hA94.keep [(0, Sl.v open_1), (1, .string (Bs name_2)), (2, .int .i64 scope_3), (7, .int .i64 i_13), (20, .bool (decide (x_90 = name_2)))] ⟨rfl, rfl, rfl, rfl, rfl, trivial⟩
    refine then_normal ?_
    refine wp_cond_split (hA95.get rfl) (fun hc => ?_) (fun hc => ?_)
    · have ht96 := ht92.1 (of_decide_eq_true hc)
      clear hc
      refine wp_seq ?_
      refine wp_region_lit ?_
      refine sq (opk_val hA95 rfl (r_assign rfl) fun a98 hA98 _ => ?_)
      refine sq_end ?_
      have hA99 := hA98.keep [(6, .bool true)] ⟨rfl, trivial⟩
      refine then_normal ?_
      refine wp_ret ?_
      refine then_ret ?_
      refine block_ret ?_
      refine then_ret ?_
      refine then_ret ?_
      refine block_ret ?_
      refine then_ret ?_
      exact res_all (vs := [.bool true]) rfl hA99 ⟨res_of_tmp hA99 rfl, trivial⟩ ht96
    · have ht97 := ht92.2 (of_decide_eq_false hc)
      clear hc
      refine wp_skip ?_
      refine then_normal ?_
      refine wp_seq ?_
      refine wp_region_lit ?_
      refine sq (opk_val hA95 rfl (r_move (hA95.get rfl)) fun a100 hA100 _ => ?_)
      refine sq (opk_val hA100 rfl (r_move (hA100.get rfl)) fun a101 hA101 _ => ?_)
      obtain ⟨hb103, p_102, hp104, ht105⟩ := ht97
      refine sq (opk_val hA101 rfl (r_indexAddr (hA101.get rfl) (hA101.get rfl) Tryd.underlying22 ti_9 hb103 hp104) fun a106 hA106 _ => ?_)
      obtain ⟨x_108, hx109, ht110⟩ := ht105
      refine sq (opk_val hA106 rfl (r_load1 Tryd.underlying9 rfl (hA106.get rfl) hx109) fun a107 hA107 _ => ?_)
      refine sq (opk_val hA107 rfl (r_move (hA107.get rfl)) fun a111 hA111 _ => ?_)
      refine sq (opk_call hA111 rfl (r_call (args := #[.string (Bs x_108), .int .i64 scope_3]) Tryd.func24 (by decide) rfl (map_arr (ml_cons (hA111.get rfl) (ml_cons (hA111.get rfl) ml_nil))) rfl) ht110 fun a113 v119 w114 hA113 _ hn116 hz117 hK118 => ?_)
      obtain ⟨r_112, rfl, ht115⟩ := hK118
      refine sq_end ?_
      have hA120 := hA113.keep [(0, Sl.v open_1), (1, .string (Bs name_2)), (2, .int .i64 scope_3), (7, .int .i64 i_13), (26, .bool r_112)] ⟨rfl, rfl, rfl, rfl, rfl, trivial⟩
      refine then_normal ?_
      refine wp_cond_split (hA120.get rfl) (fun hc => ?_) (fun hc => ?_)
      · have ht121 := ht115.1 hc
        clear hc
        refine wp_seq ?_
        refine wp_region_lit ?_
        refine sq (opk_val hA120 rfl (r_assign rfl) fun a123 hA123 _ => ?_)
        refine sq_end ?_
        have hA124 := hA123.keep [(6, .bool false)] ⟨rfl, trivial⟩
        refine then_normal ?_
        refine wp_ret ?_
        refine block_ret ?_
        refine then_ret ?_
        refine then_ret ?_
        refine block_ret ?_
        refine then_ret ?_
        exact res_all (vs := [.bool false]) rfl hA124 ⟨res_of_tmp hA124 rfl, trivial⟩ ht121
      · have ht122 := ht115.2 hc
        clear hc
        refine wp_skip ?_
        refine block_normal ?_
        refine then_normal ?_
        refine wp_region_lit ?_
        refine sq (opk_val hA120 rfl (r_move (hA120.get rfl)) fun a125 hA125 _ => ?_)
        obtain ⟨hS127, ht128⟩ := ht122
        refine sq (opk_val hA125 rfl (r_subI (hA125.get rfl) rfl hS127) fun a126 hA126 _ => ?_)
        refine sq (opk_val hA126 rfl (r_assign (hA126.get rfl)) fun a129 hA129 _ => ?_)
        refine sq_end ?_
        have hA130 := hA129.keep [(0, Sl.v open_1), (1, .string (Bs name_2)), (2, .int .i64 scope_3), (7, .int .i64 (i_13 - 1))] ⟨rfl, rfl, rfl, rfl, trivial⟩
        have hA131 := hA130.keep [(0, Sl.v open_1), (1, .string (Bs name_2)), (2, .int .i64 scope_3), (7, .int .i64 (i_13 - 1))] ⟨rfl, rfl, rfl, rfl, trivial⟩
        exact then_normal ⟨(i_13 - 1, w114), ⟨hA131, rfl, ht128.1⟩, ht128.2⟩
  · have ht81 := ht75.2 (of_decide_eq_false hc)
    clear hc
    refine wp_exit ?_
    refine then_exit ?_
    refine then_exit ?_
    refine block_hit ?_
    have hA132 := hA79.keep [] trivial
    refine then_normal ?_
    refine wp_seq ?_
    refine wp_region_lit ?_
    refine sq (opk_val hA132 rfl (r_assign rfl) fun a133 hA133 _ => ?_)
    refine sq_end ?_
    have hA134 := hA133.keep [(6, .bool false)] ⟨rfl, trivial⟩
    refine then_normal ?_
    refine wp_ret ?_
    exact res_all (vs := [.bool false]) rfl hA134 ⟨res_of_tmp hA134 rfl, trivial⟩ ht81

/-- The condition of topiary/topiaryref12.Implied. -/
def ref12_Implied.vc (open_1 : Sl) (but_2 : Str) (R : Value → World → Prop) (w : World) : Prop :=
∃ (J_9 : Int → World → Prop) (mu_10 : Int → World → Nat),
J_9 0 w ∧
(∀ (n_7 : Int) (w8 : World), J_9 n_7 w8 →
(((n_7 < (open_1.n : Int))) → I64 ((open_1.n : Int) - 1)) ∧
(((n_7 < (open_1.n : Int))) → I64 (((open_1.n : Int) - 1) - n_7)) ∧
∃ p_97 : Addr, (((n_7 < (open_1.n : Int))) → ((0 : Int) ≤ ((open_1.n : Int) - 1) - n_7 ∧ ((open_1.n : Int) - 1) - n_7 < (open_1.n : Int)) ∧  open_1.a = some p_97) ∧
∃ (x_103 : Str), (((n_7 < (open_1.n : Int))) → w8.cell? (p_97.add ((((open_1.n : Int) - 1) - n_7).toNat * 1)) = some (.string (Bs x_103))) ∧
∃ (r_106 : Bool), (((n_7 < (open_1.n : Int))) → Calls Tryd.prog 10 #[.string (Bs x_103), .int .i64 4] w8 (Ret fun v w' => Ext w8 w' ∧ v = .bool r_106)) ∧
(∀ w108 : World, Ext w8 w108 →
((((n_7 < (open_1.n : Int)) ∧ (r_106 = true))) → I64 ((open_1.n : Int) - 1)) ∧
((((n_7 < (open_1.n : Int)) ∧ (r_106 = true))) → I64 (((open_1.n : Int) - 1) - n_7)) ∧
∃ p_126 : Addr, ((((n_7 < (open_1.n : Int)) ∧ (r_106 = true))) → ((0 : Int) ≤ ((open_1.n : Int) - 1) - n_7 ∧ ((open_1.n : Int) - 1) - n_7 < (open_1.n : Int)) ∧  open_1.a = some p_126) ∧
∃ (x_132 : Str), ((((n_7 < (open_1.n : Int)) ∧ (r_106 = true))) → w108.cell? (p_126.add ((((open_1.n : Int) - 1) - n_7).toNat * 1)) = some (.string (Bs x_132))) ∧
((((n_7 < (open_1.n : Int)) ∧ (r_106 = true)) ∧ (x_132 ≠ but_2)) →
(I64 (n_7 + 1)) ∧
J_9 (n_7 + 1) w108 ∧ mu_10 (n_7 + 1) w108 < mu_10 n_7 w8) ∧
((((¬ (n_7 < (open_1.n : Int))) ∨ (r_106 = false)) ∨ (¬ (x_132 ≠ but_2))) →
R (.int .i64 n_7) w108)))
set_option maxHeartbeats 1000000 in
set_option maxRecDepth 10000 in
theorem ref12_Implied.ok (open_1 : Sl) (but_2 : Str) {R : Value → World → Prop} {w : World} (ht0 : ref12_Implied.vc open_1 but_2 R w) : Calls Tryd.prog 17 #[Sl.v open_1, .string (Bs but_2)] w (Ret R) := by
  refine enter [Sl.v open_1, .string (Bs but_2)] Tryd.func17 rfl Tryd.ntmps17 rfl ?_
  intro a0 hA0
  unfold ref12_Implied.vc at ht0
  refine wp_seq ?_
  refine wp_region_lit ?_
  refine sq (opk_val hA0 rfl (r_assign rfl) fun a3 hA3 _ => ?_)
  refine sq_end ?_
  have hA4 := hA3.keep [(0, Sl.v open_1), (1, .string (Bs but_2))] ⟨rfl, rfl, trivial⟩
  refine then_normal ?_
  refine wp_seq ?_
  refine wp_region_lit ?_
  refine sq (opk_val hA4 rfl (r_assign rfl) fun a5 hA5 _ => ?_)
  refine sq_end ?_
  have hA6 := hA5.keep [(0, Sl.v open_1), (1, .string (Bs but_2)), (5, .int .i64 0)] ⟨rfl, rfl, rfl, trivial⟩
  refine then_normal ?_
  refine wp_seq ?_
  refine wp_block ?_
  obtain ⟨J_9, mu_10, h079, ht78⟩ := ht0
  refine wp_loop_st (σ := Int × World) (fun s a w => Ag 36 a [(0, Sl.v open_1), (1, .string (Bs but_2)), (5, .int .i64 s.1)] ∧ w = s.2 ∧ J_9 s.1 s.2) (fun s => mu_10 s.1 s.2) (0, w) ⟨hA6.keep [(0, Sl.v open_1), (1, .string (Bs but_2)), (5, .int .i64 0)] ⟨rfl, rfl, rfl, trivial⟩, rfl, h079⟩ ?_
  rintro ⟨n_7, w8⟩ a77 w_ ⟨hA77, hw_, hJ81⟩
  have hw_ : w8 = w_ := hw_.symm
  subst hw_
  have ht80 := ht78 n_7 _ hJ81
  refine wp_seq ?_
  refine wp_seq ?_
  refine wp_region_lit ?_
  refine sq (opk_val hA77 rfl (r_move (hA77.get rfl)) fun a82 hA82 _ => ?_)
  refine sq (opk_val hA82 rfl (r_move (hA82.get rfl)) fun a83 hA83 _ => ?_)
  refine sq (opk_val hA83 rfl (r_len (hA83.get rfl) Tryd.underlying22) fun a84 hA84 _ => ?_)
  refine sq (opk_val hA84 rfl (r_lss (hA84.get rfl) (hA84.get rfl)) fun a85 hA85 _ => ?_)
  refine sq (opk_val hA85 rfl (r_move (hA85.get rfl)) fun a86 hA86 _ => ?_)
  refine sq (opk_gval hA86 rfl rfl (g := true) (e := (decide (n_7 < (open_1.n : Int)))) rfl (fun hg => r_move (hA86.get rfl)) fun a87 hA87 _ => ?_)
  refine sq (opk_gval hA87 rfl rfl (g := true) (e := (decide (n_7 < (open_1.n : Int)))) rfl (fun hg => r_move (hA87.get rfl)) fun a88 hA88 _ => ?_)
  refine sq (opk_gval hA88 rfl rfl (g := true) (e := (decide (n_7 < (open_1.n : Int)))) rfl (fun hg => r_len (cv_get (hA88.get rfl) hg) Tryd.underlying22) fun a89 hA89 _ => ?_)
  obtain ⟨hS91, ht92⟩ := ht80
  refine sq (opk_gval hA89 rfl rfl (g := true) (e := (decide (n_7 < (open_1.n : Int)))) rfl (fun hg => r_subI (cv_get (hA89.get rfl) hg) rfl (hS91 (of_decide_eq_true (g_t hg)))) fun a90 hA90 _ => ?_)
  refine sq (opk_gval hA90 rfl rfl (g := true) (e := (decide (n_7 < (open_1.n : Int)))) rfl (fun hg => r_move (hA90.get rfl)) fun a93 hA93 _ => ?_)
  obtain ⟨hS95, ht96⟩ := ht92
  refine sq (opk_gval hA93 rfl rfl (g := true) (e := (decide (n_7 < (open_1.n : Int)))) rfl (fun hg => r_subI (cv_get (hA93.get rfl) hg) (cv_get (hA93.get rfl) hg) (hS95 (of_decide_eq_true (g_t hg)))) fun a94 hA94 _ => ?_)
  obtain ⟨p_97, hp99, ht100⟩ := ht96
  refine sq (opk_gval hA94 rfl rfl (g := true) (e := (decide (n_7 < (open_1.n : Int)))) rfl (fun hg => r_indexAddr (cv_get (hA94.get rfl) hg) (cv_get (hA94.get rfl) hg) Tryd.underlying22 ti_9 (hp99 (of_decide_eq_true (g_t hg))).1 (hp99 (of_decide_eq_true (g_t hg))).2) fun a101 hA101 _ => ?_)
  obtain ⟨x_103, hx104, ht105⟩ := ht100
  refine sq (opk_gval hA101 rfl rfl (g := true) (e := (decide (n_7 < (open_1.n : Int)))) rfl (fun hg => r_load1 Tryd.underlying9 rfl (cv_get (hA101.get rfl) hg) (hx104 (of_decide_eq_true (g_t hg)))) fun a102 hA102 _ => ?_)
  obtain ⟨r_106, hc110, ht109⟩ := ht105
  refine sq (opk_gcall hA102 rfl rfl (g := true) (e := (decide (n_7 < (open_1.n : Int)))) rfl (fun hg => r_call (args := #[.string (Bs x_103), .int .i64 4]) Tryd.func10 (by decide) rfl (map_arr (ml_cons (cv_get (hA102.get rfl) hg) (ml_cons rfl ml_nil))) rfl) (fun hg => hc110 (of_decide_eq_true (g_t hg))) fun a107 w108 hA107 _ hE111 => ?_)
  have hC112 : Chg [] w8 w108 := hE111
  have ht113 := ht109 w108 hE111
  refine sq (opk_val hA107 rfl (r_pick_and (g := (true && ((decide (n_7 < (open_1.n : Int))) == true))) (hA107.get rfl) (hA107.get rfl) (fun he => g_mkt rfl he)) fun a114 hA114 _ => ?_)
  refine sq (opk_val hA114 rfl (r_move (hA114.get rfl)) fun a115 hA115 _ => ?_)
  refine sq (opk_gval hA115 rfl rfl (g := true) (e := ((decide (n_7 < (open_1.n : Int))) && r_106)) rfl (fun hg => r_move (hA115.get rfl)) fun a116 hA116 _ => ?_)
  refine sq (opk_gval hA116 rfl rfl (g := true) (e := ((decide (n_7 < (open_1.n : Int))) && r_106)) rfl (fun hg => r_move (hA116.get rfl)) fun a117 hA117 _ => ?_)
  refine sq (opk_gval hA117 rfl rfl (g := true) (e := ((decide (n_7 < (open_1.n : Int))) && r_106)) rfl (fun hg => r_len (cv_get (hA117.get rfl) hg) Tryd.underlying22) fun a118 hA118 _ => ?_)
  obtain ⟨hS120, ht121⟩ := ht113
  refine sq (opk_gval hA118 rfl rfl (g := true) (e := ((decide (n_7 < (open_1.n : Int))) && r_106)) rfl (fun hg => r_subI (cv_get (hA118.get rfl) hg) rfl (hS120 ⟨(of_decide_eq_true (b_and_t (g_t hg)).1), (b_and_t (g_t hg)).2⟩)) fun a119 hA119 _ => ?_)
  refine sq (opk_gval hA119 rfl rfl (g := true) (e := ((decide (n_7 < (open_1.n : Int))) && r_106)) rfl (fun hg => r_move (hA119.get rfl)) fun a122 hA122 _ => ?_)
  obtain ⟨hS124, ht125⟩ := ht121
  refine sq (opk_gval hA122 rfl rfl (g := true) (e := ((decide (n_7 < (open_1.n : Int))) && r_106)) rfl (fun hg => r_subI (cv_get (hA122.get rfl) hg) (cv_get (hA122.get rfl) hg) (hS124 ⟨(of_decide_eq_true (b_and_t (g_t hg)).1), (b_and_t (g_t hg)).2⟩)) fun a123 hA123 _ => ?_)
  obtain ⟨p_126, hp128, ht129⟩ := ht125
  refine sq (opk_gval hA123 rfl rfl (g := true) (e := ((decide (n_7 < (open_1.n : Int))) && r_106)) rfl (fun hg => r_indexAddr (cv_get (hA123.get rfl) hg) (cv_get (hA123.get rfl) hg) Tryd.underlying22 ti_9 (hp128 ⟨(of_decide_eq_true (b_and_t (g_t hg)).1), (b_and_t (g_t hg)).2⟩).1 (hp128 ⟨(of_decide_eq_true (b_and_t (g_t hg)).1), (b_and_t (g_t hg)).2⟩).2) fun a130 hA130 _ => ?_)
  obtain ⟨x_132, hx133, ht134⟩ := ht129
  refine sq (opk_gval hA130 rfl rfl (g := true) (e := ((decide (n_7 < (open_1.n : Int))) && r_106)) rfl (fun hg => r_load1 Tryd.underlying9 rfl (cv_get (hA130.get rfl) hg) (hx133 ⟨(of_decide_eq_true (b_and_t (g_t hg)).1), (b_and_t (g_t hg)).2⟩)) fun a131 hA131 _ => ?_)
  refine sq (opk_gval hA131 rfl rfl (g := true) (e := ((decide (n_7 < (open_1.n : Int))) && r_106)) rfl (fun hg => r_move (hA131.get rfl)) fun a135 hA135 _ => ?_)
  refine sq (opk_gval hA135 rfl rfl (g := true) (e := ((decide (n_7 < (open_1.n : Int))) && r_106)) rfl (fun hg => r_sneq (cv_get (hA135.get rfl) hg) (cv_get (hA135.get rfl) hg)) fun a136 hA136 _ => ?_)
  refine sq (opk_val hA136 rfl (r_pick_and (g := (true && (((decide (n_7 < (open_1.n : Int))) && r_106) == true))) (hA136.get rfl) (hA136.get rfl) (fun he => g_mkt rfl he)) fun a137 hA137 _ => ?_)
  refine sq_end ?_
  have hA138 := hA137.keep [(0, Sl.v open_1), (1, .string (Bs but_2)), (5, .int .i64 n_7), (32, .bool (((decide (n_7 < (open_1.n : Int))) && r_106) && (decide (x_132 ≠ but_2))))] ⟨rfl, rfl, rfl, rfl, trivial⟩
  refine then_normal ?_
  refine wp_cond_split (hA138.get rfl) (fun hc => ?_) (fun hc => ?_)
  · have ht139 := ht134.1 ⟨⟨(of_decide_eq_true (b_and_t (b_and_t hc).1).1), (b_and_t (b_and_t hc).1).2⟩, (of_decide_eq_true (b_and_t hc).2)⟩
    clear hc
    refine wp_skip ?_
    refine then_normal ?_
    refine wp_block ?_
    refine wp_region_lit ?_
    refine sq (opk_val hA138 rfl (r_move (hA138.get rfl)) fun a141 hA141 _ => ?_)
    obtain ⟨hS143, ht144⟩ := ht139
    refine sq (opk_val hA141 rfl (r_addI (hA141.get rfl) rfl hS143) fun a142 hA142 _ => ?_)
    refine sq (opk_val hA142 rfl (r_assign (hA142.get rfl)) fun a145 hA145 _ => ?_)
    refine sq_end ?_
    have hA146 := hA145.keep [(0, Sl.v open_1), (1, .string (Bs but_2)), (5, .int .i64 (n_7 + 1))] ⟨rfl, rfl, rfl, trivial⟩
    refine block_normal ?_
    have hA147 := hA146.keep [(0, Sl.v open_1), (1, .string (Bs but_2)), (5, .int .i64 (n_7 + 1))] ⟨rfl, rfl, rfl, trivial⟩
    exact then_normal ⟨(n_7 + 1, w108), ⟨hA147, rfl, ht144.1⟩, ht144.2⟩
  · have ht140 := ht134.2 ((b_and_f hc).imp (fun h => ((b_and_f h).imp (fun h => (of_decide_eq_false h)) (fun h => h))) (fun h => (of_decide_eq_false h)))
    clear hc
    refine wp_exit ?_
    refine then_exit ?_
    refine then_exit ?_
    refine block_hit ?_
    have hA148 := hA138.keep [(5, .int .i64 n_7)] ⟨rfl, trivial⟩
    refine then_normal ?_
    refine wp_seq ?_
    refine wp_region_lit ?_
    refine sq (opk_val hA148 rfl (r_move (hA148.get rfl)) fun a149 hA149 _ => ?_)
    refine sq (opk_val hA149 rfl (r_assign (hA149.get rfl)) fun a150 hA150 _ => ?_)
    refine sq_end ?_
    have hA151 := hA150.keep [(4, .int .i64 n_7)] ⟨rfl, trivial⟩
    refine then_normal ?_
    refine wp_ret ?_
    exact res_all (vs := [.int .i64 n_7]) rfl hA151 ⟨res_of_tmp hA151 rfl, trivial⟩ ht140

/-- The condition of topiary/topiaryref12.Until. -/
def ref12_Until.vc (open_1 : Sl) (names_2 : Sl) (R : Value → World → Prop) (w : World) : Prop :=
∃ (J_9 : Int → World → Prop) (mu_10 : Int → World → Nat),
J_9 1 w ∧
(∀ (n_7 : Int) (w8 : World), J_9 n_7 w8 →
((n_7 ≤ (open_1.n : Int)) →
(I64 ((open_1.n : Int) - n_7)) ∧
((0 : Int) ≤ (open_1.n : Int) - n_7 ∧ (open_1.n : Int) - n_7 < (open_1.n : Int)) ∧ ∃ p_76 : Addr, open_1.a = some p_76 ∧
∃ (x_82 : Str), (w8.cell? (p_76.add (((open_1.n : Int) - n_7).toNat * 1)) = some (.string (Bs x_82))) ∧
CallK Tryd.prog 22 #[Sl.v names_2, .string (Bs x_82)] w8 [] (fun v w87 => ∃ (r_85 : Bool), v = .bool r_85 ∧
((r_85 = true) →
R (.int .i64 n_7) w87) ∧
((r_85 = false) →
(I64 (n_7 + 1)) ∧
J_9 (n_7 + 1) w87 ∧ mu_10 (n_7 + 1) w87 < mu_10 n_7 w8))) ∧
((¬ (n_7 ≤ (open_1.n : Int))) →
R (.int .i64 0) w8))
set_option maxHeartbeats 1000000 in
set_option maxRecDepth 10000 in
theorem ref12_Until.ok (open_1 : Sl) (names_2 : Sl) {R : Value → World → Prop} {w : World} (ht0 : ref12_Until.vc open_1 names_2 R w) : Calls Tryd.prog 19 #[Sl.v open_1, Sl.v names_2] w (Ret R) := by
  refine enter [Sl.v open_1, Sl.v names_2] Tryd.func19 rfl Tryd.ntmps19 rfl ?_
  intro a0 hA0
  unfold ref12_Until.vc at ht0
  refine wp_seq ?_
  refine wp_region_lit ?_
  refine sq (opk_val hA0 rfl (r_assign rfl) fun a3 hA3 _ => ?_)
  refine sq_end ?_
  have hA4 := hA3.keep [(0, Sl.v open_1), (1, Sl.v names_2)] ⟨rfl, rfl, trivial⟩
  refine then_normal ?_
  refine wp_seq ?_
  refine wp_seq ?_
  refine wp_region_lit ?_
  refine sq (opk_val hA4 rfl (r_assign rfl) fun a5 hA5 _ => ?_)
  refine sq_end ?_
  have hA6 := hA5.keep [(0, Sl.v open_1), (1, Sl.v names_2), (5, .int .i64 1)] ⟨rfl, rfl, rfl, trivial⟩
  refine then_normal ?_
  refine wp_block ?_
  obtain ⟨J_9, mu_10, h058, ht57⟩ := ht0
  refine wp_loop_st (σ := Int × World) (fun s a w => Ag 22 a [(0, Sl.v open_1), (1, Sl.v names_2), (5, .int .i64 s.1)] ∧ w = s.2 ∧ J_9 s.1 s.2) (fun s => mu_10 s.1 s.2) (1, w) ⟨hA6.keep [(0, Sl.v open_1), (1, Sl.v names_2), (5, .int .i64 1)] ⟨rfl, rfl, rfl, trivial⟩, rfl, h058⟩ ?_
  rintro ⟨n_7, w8⟩ a56 w_ ⟨hA56, hw_, hJ60⟩
  have hw_ : w8 = w_ := hw_.symm
  subst hw_
  have ht59 := ht57 n_7 _ hJ60
  refine wp_seq ?_
  refine wp_seq ?_
  refine wp_region_lit ?_
  refine sq (opk_val hA56 rfl (r_move (hA56.get rfl)) fun a61 hA61 _ => ?_)
  refine sq (opk_val hA61 rfl (r_move (hA61.get rfl)) fun a62 hA62 _ => ?_)
  refine sq (opk_val hA62 rfl (r_len (hA62.get rfl) Tryd.underlying22) fun a63 hA63 _ => ?_)
  refine sq (opk_val hA63 rfl (r_leq (hA63.get rfl) (hA63.get rfl)) fun a64 hA64 _ => ?_)
  refine sq_end ?_
  have hA65 := hA64.keep [(0, Sl.v open_1), (1, Sl.v names_2), (5, .int .i64 n_7), (9, .bool (decide (n_7 ≤ (open_1.n : Int))))] ⟨rfl, rfl, rfl, rfl, trivial⟩
  refine then_normal ?_
  refine wp_cond_split (hA65.get rfl) (fun hc => ?_) (fun hc => ?_)
  · have ht66 := ht59.1 (of_decide_eq_true hc)
    clear hc
    refine wp_skip ?_
    refine then_normal ?_
    refine wp_seq ?_
    refine wp_block ?_
    refine wp_seq ?_
    refine wp_region_lit ?_
    refine sq (opk_val hA65 rfl (r_move (hA65.get rfl)) fun a68 hA68 _ => ?_)
    refine sq (opk_val hA68 rfl (r_move (hA68.get rfl)) fun a69 hA69 _ => ?_)
    refine sq (opk_val hA69 rfl (r_move (hA69.get rfl)) fun a70 hA70 _ => ?_)
    refine sq (opk_val hA70 rfl (r_len (hA70.get rfl) Tryd.underlying22) fun a71 hA71 _ => ?_)
    refine sq (opk_val hA71 rfl (r_move (hA71.get rfl)) fun a72 hA72 _ => ?_)
    obtain ⟨hS74, ht75⟩ := ht66
    refine sq (opk_val hA72 rfl (r_subI (hA72.get rfl) (hA72.get rfl) hS74) fun a73 hA73 _ => ?_)
    obtain ⟨hb77, p_76, hp78, ht79⟩ := ht75
    refine sq (opk_val hA73 rfl (r_indexAddr (hA73.get rfl) (hA73.get rfl) Tryd.underlying22 ti_9 hb77 hp78) fun a80 hA80 _ => ?_)
    obtain ⟨x_82, hx83, ht84⟩ := ht79
    refine sq (opk_val hA80 rfl (r_load1 Tryd.underlying9 rfl (hA80.get rfl) hx83) fun a81 hA81 _ => ?_)
    refine sq (opk_call hA81 rfl (r_call (args := #[Sl.v names_2, .string (Bs x_82)]) Tryd.func22 (by decide) rfl (map_arr (ml_cons (hA81.get rfl) (ml_cons (hA81.get rfl) ml_nil))) rfl) ht84 fun a86 v92 w87 hA86 _ hn89 hz90 hK91 => ?_)
    obtain ⟨r_85, rfl, ht88⟩ := hK91
    refine sq_end ?_
    have hA93 := hA86.keep [(0, Sl.v open_1), (1, Sl.v names_2), (5, .int .i64 n_7), (20, .bool r_85)] ⟨rfl, rfl, rfl, rfl, trivial⟩
    refine then_normal ?_
    refine wp_cond_split (hA93.get rfl) (fun hc => ?_) (fun hc => ?_)
    · have ht94 := ht88.1 hc
      clear hc
      refine wp_seq ?_
      refine wp_region_lit ?_
      refine sq (opk_val hA93 rfl (r_move (hA93.get rfl)) fun a96 hA96 _ => ?_)
      refine sq (opk_val hA96 rfl (r_assign (hA96.get rfl)) fun a97 hA97 _ => ?_)
      refine sq_end ?_
      have hA98 := hA97.keep [(4, .int .i64 n_7)] ⟨rfl, trivial⟩
      refine then_normal ?_
      refine wp_ret ?_
      refine block_ret ?_
      refine then_ret ?_
      refine then_ret ?_
      refine block_ret ?_
      refine then_ret ?_
      exact res_all (vs := [.int .i64 n_7]) rfl hA98 ⟨res_of_tmp hA98 rfl, trivial⟩ ht94
    · have ht95 := ht88.2 hc
      clear hc
      refine wp_skip ?_
      refine block_normal ?_
      refine then_normal ?_
      refine wp_region_lit ?_
      refine sq (opk_val hA93 rfl (r_move (hA93.get rfl)) fun a99 hA99 _ => ?_)
      obtain ⟨hS101, ht102⟩ := ht95
      refine sq (opk_val hA99 rfl (r_addI (hA99.get rfl) rfl hS101) fun a100 hA100 _ => ?_)
      refine sq (opk_val hA100 rfl (r_assign (hA100.get rfl)) fun a103 hA103 _ => ?_)
      refine sq_end ?_
      have hA104 := hA103.keep [(0, Sl.v open_1), (1, Sl.v names_2), (5, .int .i64 (n_7 + 1))] ⟨rfl, rfl, rfl, trivial⟩
      have hA105 := hA104.keep [(0, Sl.v open_1), (1, Sl.v names_2), (5, .int .i64 (n_7 + 1))] ⟨rfl, rfl, rfl, trivial⟩
      exact then_normal ⟨(n_7 + 1, w87), ⟨hA105, rfl, ht102.1⟩, ht102.2⟩
  · have ht67 := ht59.2 (of_decide_eq_false hc)
    clear hc
    refine wp_exit ?_
    refine then_exit ?_
    refine then_exit ?_
    refine block_hit ?_
    have hA106 := hA65.keep [] trivial
    refine then_normal ?_
    refine wp_seq ?_
    refine wp_region_lit ?_
    refine sq (opk_val hA106 rfl (r_assign rfl) fun a107 hA107 _ => ?_)
    refine sq_end ?_
    have hA108 := hA107.keep [(4, .int .i64 0)] ⟨rfl, trivial⟩
    refine then_normal ?_
    refine wp_ret ?_
    exact res_all (vs := [.int .i64 0]) rfl hA108 ⟨res_of_tmp hA108 rfl, trivial⟩ ht67

/-- The condition of topiary/topiaryref12.Has. -/
def ref12_Has.vc (l_1 : Sl) (name_2 : Str) (R : Value → World → Prop) (w : World) : Prop :=
∃ (J_9 : Int → World → Prop) (mu_10 : Int → World → Nat),
J_9 0 w ∧
(∀ (i_7 : Int) (w8 : World), J_9 i_7 w8 →
((i_7 < (l_1.n : Int)) →
((0 : Int) ≤ i_7 ∧ i_7 < (l_1.n : Int)) ∧ ∃ p_57 : Addr, l_1.a = some p_57 ∧
∃ (x_63 : Str), (w8.cell? (p_57.add (i_7.toNat * 1)) = some (.string (Bs x_63))) ∧
((x_63 = name_2) →
R (.bool true) w8) ∧
((¬ (x_63 = name_2)) →
(I64 (i_7 + 1)) ∧
J_9 (i_7 + 1) w8 ∧ mu_10 (i_7 + 1) w8 < mu_10 i_7 w8)) ∧
((¬ (i_7 < (l_1.n : Int))) →
R (.bool false) w8))
set_option maxHeartbeats 1000000 in
set_option maxRecDepth 10000 in
theorem ref12_Has.ok (l_1 : Sl) (name_2 : Str) {R : Value → World → Prop} {w : World} (ht0 : ref12_Has.vc l_1 name_2 R w) : Calls Tryd.prog 22 #[Sl.v l_1, .string (Bs name_2)] w (Ret R) := by
  refine enter [Sl.v l_1, .string (Bs name_2)] Tryd.func22 rfl Tryd.ntmps22 rfl ?_
  intro a0 hA0
  unfold ref12_Has.vc at ht0
  refine wp_seq ?_
  refine wp_region_lit ?_
  refine sq (opk_val hA0 rfl (r_assign rfl) fun a3 hA3 _ => ?_)
  refine sq_end ?_
  have hA4 := hA3.keep [(0, Sl.v l_1), (1, .string (Bs name_2))] ⟨rfl, rfl, trivial⟩
  refine then_normal ?_
  refine wp_seq ?_
  refine wp_seq ?_
  refine wp_region_lit ?_
  refine sq (opk_val hA4 rfl (r_assign rfl) fun a5 hA5 _ => ?_)
  refine sq_end ?_
  have hA6 := hA5.keep [(0, Sl.v l_1), (1, .string (Bs name_2)), (5, .int .i64 0)] ⟨rfl, rfl, rfl, trivial⟩
  refine then_normal ?_
  refine wp_block ?_
  obtain ⟨J_9, mu_10, h045, ht44⟩ := ht0
  refine wp_loop_st (σ := Int × World) (fun s a w => Ag 18 a [(0, Sl.v l_1), (1, .string (Bs name_2)), (5, .int .i64 s.1)] ∧ w = s.2 ∧ J_9 s.1 s.2) (fun s => mu_10 s.1 s.2) (0, w) ⟨hA6.keep [(0, Sl.v l_1), (1, .string (Bs name_2)), (5, .int .i64 0)] ⟨rfl, rfl, rfl, trivial⟩, rfl, h045⟩ ?_
  rintro ⟨i_7, w8⟩ a43 w_ ⟨hA43, hw_, hJ47⟩
  have hw_ : w8 = w_ := hw_.symm
  subst hw_
  have ht46 := ht44 i_7 _ hJ47
  refine wp_seq ?_
  refine wp_seq ?_
  refine wp_region_lit ?_
  refine sq (opk_val hA43 rfl (r_move (hA43.get rfl)) fun a48 hA48 _ => ?_)
  refine sq (opk_val hA48 rfl (r_move (hA48.get rfl)) fun a49 hA49 _ => ?_)
  refine sq (opk_val hA49 rfl (r_len (hA49.get rfl) Tryd.underlying22) fun a50 hA50 _ => ?_)
  refine sq (opk_val hA50 rfl (r_lss (hA50.get rfl) (hA50.get rfl)) fun a51 hA51 _ => ?_)
  refine sq_end ?_
  have hA52 := hA51.keep [(0, Sl.v l_1), (1, .string (Bs name_2)), (5, .int .i64 i_7), (9, .bool (decide (i_7 < (l_1.n : Int))))] ⟨rfl, rfl, rfl, rfl, trivial⟩
  refine then_normal ?_
  refine wp_cond_split (hA52.get rfl) (fun hc => ?_) (fun hc => ?_)
  · have ht53 := ht46.1 (of_decide_eq_true hc)
    clear hc
    refine wp_skip ?_
    refine then_normal ?_
    refine wp_seq ?_
    refine wp_block ?_
    refine wp_seq ?_
    refine wp_region_lit ?_
    refine sq (opk_val hA52 rfl (r_move (hA52.get rfl)) fun a55 hA55 _ => ?_)
    refine sq (opk_val hA55 rfl (r_move (hA55.get rfl)) fun a56 hA56 _ => ?_)
    obtain ⟨hb58, p_57, hp59, ht60⟩ := ht53
    refine sq (opk_val hA56 rfl (r_indexAddr (hA56.get rfl) (hA56.get rfl) Tryd.underlying22 ti_9 hb58 hp59) fun a61 hA61 _ => ?_)
    obtain ⟨x_63, hx64, ht65⟩ := ht60
    refine sq (opk_val hA61 rfl (r_load1 Tryd.underlying9 rfl (hA61.get rfl) hx64) fun a62 hA62 _ => ?_)
    refine sq (opk_val hA62 rfl (r_move (hA62.get rfl)) fun a66 hA66 _ => ?_)
    refine sq (opk_val hA66 rfl (r_seql (hA66.get rfl) (hA66.get rfl)) fun a67 hA67 _ => ?_)
    refine sq_end ?_
    have hA68 := hA67.keep [(0, Sl.v l_1), (1, .string (Bs name_2)), (5, .int .i64 i_7), (17, .bool (decide (x_63 = name_2)))] ⟨rfl, rfl, rfl, rfl, trivial⟩
    refine then_normal ?_
    refine wp_cond_split (hA68.get rfl) (fun hc => ?_) (fun hc => ?_)
    · have ht69 := ht65.1 (of_decide_eq_true hc)
      clear hc
      refine wp_seq ?_
      refine wp_region_lit ?_
      refine sq (opk_val hA68 rfl (r_assign rfl) fun a71 hA71 _ => ?_)
      refine sq_end ?_
      have hA72 := hA71.keep [(4, .bool true)] ⟨rfl, trivial⟩
      refine then_normal ?_
      refine wp_ret ?_
      refine block_ret ?_
      refine then_ret ?_
      refine then_ret ?_
      refine block_ret ?_
      refine then_ret ?_
      exact res_all (vs := [.bool true]) rfl hA72 ⟨res_of_tmp hA72 rfl, trivial⟩ ht69
    · have ht70 := ht65.2 (of_decide_eq_false hc)
      clear hc
      refine wp_skip ?_
      refine block_normal ?_
      refine then_normal ?_
      refine wp_region_lit ?_
      refine sq (opk_val hA68 rfl (r_move (hA68.get rfl)) fun a73 hA73 _ => ?_)
      obtain ⟨hS75, ht76⟩ := ht70
      refine sq (opk_val hA73 rfl (r_addI (hA73.get rfl) rfl hS75) fun a74 hA74 _ => ?_)
      refine sq (opk_val hA74 rfl (r_assign (hA74.get rfl)) fun a77 hA77 _ => ?_)
      refine sq_end ?_
      have hA78 := hA77.keep [(0, Sl.v l_1), (1, .string (Bs name_2)), (5, .int .i64 (i_7 + 1))] ⟨rfl, rfl, rfl, trivial⟩
      have hA79 := hA78.keep [(0, Sl.v l_1), (1, .string (Bs name_2)), (5, .int .i64 (i_7 + 1))] ⟨rfl, rfl, rfl, trivial⟩
      exact then_normal ⟨(i_7 + 1, w8), ⟨hA79, rfl, ht76.1⟩, ht76.2⟩
  · have ht54 := ht46.2 (of_decide_eq_false hc)
    clear hc
    refine wp_exit ?_
    refine then_exit ?_
    refine then_exit ?_
    refine block_hit ?_
    have hA80 := hA52.keep [] trivial
    refine then_normal ?_
    refine wp_seq ?_
    refine wp_region_lit ?_
    refine sq (opk_val hA80 rfl (r_assign rfl) fun a81 hA81 _ => ?_)
    refine sq_end ?_
    have hA82 := hA81.keep [(4, .bool false)] ⟨rfl, trivial⟩
    refine then_normal ?_
    refine wp_ret ?_
    exact res_all (vs := [.bool false]) rfl hA82 ⟨res_of_tmp hA82 rfl, trivial⟩ ht54

/-- The condition of topiary/topiaryref12.Border. -/
def ref12_Border.vc (name_1 : Str) (scope_2 : Int) (R : Value → World → Prop) (w : World) : Prop :=
(((name_1 = ([104, 116, 109, 108] : Str)) ∨ (name_1 = ([116, 97, 98, 108, 101] : Str))) →
R (.bool true) w) ∧
(((¬ (name_1 = ([104, 116, 109, 108] : Str))) ∧ (¬ (name_1 = ([116, 97, 98, 108, 101] : Str)))) →
(((name_1 = ([97, 112, 112, 108, 101, 116] : Str)) ∨ ((name_1 = ([99, 97, 112, 116, 105, 111, 110] : Str)) ∨ ((name_1 = ([116, 100] : Str)) ∨ ((name_1 = ([116, 104] : Str)) ∨ ((name_1 = ([109, 97, 114, 113, 117, 101, 101] : Str)) ∨ (name_1 = ([111, 98, 106, 101, 99, 116] : Str))))))) →
R (.bool (decide (scope_2 ≠ 4))) w) ∧
(((¬ (name_1 = ([97, 112, 112, 108, 101, 116] : Str))) ∧ ((¬ (name_1 = ([99, 97, 112, 116, 105, 111, 110] : Str))) ∧ ((¬ (name_1 = ([116, 100] : Str))) ∧ ((¬ (name_1 = ([116, 104] : Str))) ∧ ((¬ (name_1 = ([109, 97, 114, 113, 117, 101, 101] : Str))) ∧ (¬ (name_1 = ([111, 98, 106, 101, 99, 116] : Str)))))))) →
(((name_1 = ([111, 108] : Str)) ∨ (name_1 = ([117, 108] : Str))) →
R (.bool (decide (scope_2 = 2))) w) ∧
(((¬ (name_1 = ([111, 108] : Str))) ∧ (¬ (name_1 = ([117, 108] : Str)))) →
((name_1 = ([98, 117, 116, 116, 111, 110] : Str)) →
R (.bool (decide (scope_2 = 3))) w) ∧
((¬ (name_1 = ([98, 117, 116, 116, 111, 110] : Str))) →
R (.bool false) w))))
set_option maxHeartbeats 1000000 in
set_option maxRecDepth 10000 in
theorem ref12_Border.ok (name_1 : Str) (scope_2 : Int) {R : Value → World → Prop} {w : World} (ht0 : ref12_Border.vc name_1 scope_2 R w) : Calls Tryd.prog 24 #[.string (Bs name_1), .int .i64 scope_2] w (Ret R) := by
  refine enter [.string (Bs name_1), .int .i64 scope_2] Tryd.func24 rfl Tryd.ntmps24 rfl ?_
  intro a0 hA0
  unfold ref12_Border.vc at ht0
  refine wp_seq ?_
  refine wp_region_lit ?_
  refine sq (opk_val hA0 rfl (r_assign rfl) fun a3 hA3 _ => ?_)
  refine sq_end ?_
  have hA4 := hA3.keep [(0, .string (Bs name_1)), (1, .int .i64 scope_2)] ⟨rfl, rfl, trivial⟩
  refine then_normal ?_
  refine wp_seq ?_
  refine wp_seq ?_
  refine wp_region_lit ?_
  refine sq (opk_val hA4 rfl (r_move (hA4.get rfl)) fun a5 hA5 _ => ?_)
  refine sq_end ?_
  have hA6 := hA5.keep [(1, .int .i64 scope_2), (5, .string (Bs name_1))] ⟨rfl, rfl, trivial⟩
  refine then_normal ?_
  refine wp_block ?_
  refine wp_seq ?_
  refine wp_seq ?_
  refine wp_region_lit ?_
  refine sq (opk_val hA6 rfl (r_seql (hA6.get rfl) rfl) fun a7 hA7 _ => ?_)
  refine sq (opk_val hA7 rfl (r_assign (hA7.get rfl)) fun a8 hA8 _ => ?_)
  refine sq_end ?_
  have hA9 := hA8.keep [(1, .int .i64 scope_2), (5, .string (Bs name_1)), (6, .bool (decide (name_1 = ([104, 116, 109, 108] : Str))))] ⟨rfl, rfl, rfl, trivial⟩
  refine then_normal ?_
  refine wp_meet (fun a wq => Ag 27 a [(1, .int .i64 scope_2), (5, .string (Bs name_1)), (6, .bool ((decide (name_1 = ([104, 116, 109, 108] : Str))) || (decide (name_1 = ([116, 97, 98, 108, 101] : Str)))))] ∧ wq = w) ?_ ?_
  · refine wp_cond_split (hA9.get rfl) (fun hc => ?_) (fun hc => ?_)
    · refine wp_skip ?_
      have hA13 := hA9.say (t := 6) rfl (.bool ((decide (name_1 = ([104, 116, 109, 108] : Str))) || (decide (name_1 = ([116, 97, 98, 108, 101] : Str))))) (by rw [hc]; rfl)
      exact then_normal ⟨hA13.keep [(1, .int .i64 scope_2), (5, .string (Bs name_1)), (6, .bool ((decide (name_1 = ([104, 116, 109, 108] : Str))) || (decide (name_1 = ([116, 97, 98, 108, 101] : Str)))))] ⟨rfl, rfl, rfl, trivial⟩, rfl⟩
    · refine wp_region_lit ?_
      refine sq (opk_val hA9 rfl (r_seql (hA9.get rfl) rfl) fun a14 hA14 _ => ?_)
      refine sq (opk_val hA14 rfl (r_assign (hA14.get rfl)) fun a15 hA15 _ => ?_)
      refine sq_end ?_
      have hA16 := hA15.keep [(1, .int .i64 scope_2), (5, .string (Bs name_1)), (6, .bool (decide (name_1 = ([116, 97, 98, 108, 101] : Str))))] ⟨rfl, rfl, rfl, trivial⟩
      have hA17 := hA16.say (t := 6) rfl (.bool ((decide (name_1 = ([104, 116, 109, 108] : Str))) || (decide (name_1 = ([116, 97, 98, 108, 101] : Str))))) (by rw [hc]; rfl)
      exact then_normal ⟨hA17.keep [(1, .int .i64 scope_2), (5, .string (Bs name_1)), (6, .bool ((decide (name_1 = ([104, 116, 109, 108] : Str))) || (decide (name_1 = ([116, 97, 98, 108, 101] : Str)))))] ⟨rfl, rfl, rfl, trivial⟩, rfl⟩
  · rintro a18 w_ ⟨hA18, hw_⟩
    have hw_ : w = w_ := hw_.symm
    subst hw_
    refine then_normal ?_
    refine wp_cond_split (hA18.get rfl) (fun hc => ?_) (fun hc => ?_)
    · have ht19 := ht0.1 ((b_or_t hc).imp (fun h => (of_decide_eq_true h)) (fun h => (of_decide_eq_true h)))
      clear hc
      refine wp_seq ?_
      refine wp_region_lit ?_
      refine sq (opk_val hA18 rfl (r_assign rfl) fun a21 hA21 _ => ?_)
      refine sq_end ?_
      have hA22 := hA21.keep [(4, .bool true)] ⟨rfl, trivial⟩
      refine then_normal ?_
      refine wp_ret ?_
      refine block_ret ?_
      refine then_ret ?_
      exact res_all (vs := [.bool true]) rfl hA22 ⟨res_of_tmp hA22 rfl, trivial⟩ ht19
    · have ht20 := ht0.2 ⟨(of_decide_eq_false (b_or_f hc).1), (of_decide_eq_false (b_or_f hc).2)⟩
      clear hc
      refine wp_seq ?_
      refine wp_seq ?_
      refine wp_region_lit ?_
      refine sq (opk_val hA18 rfl (r_seql (hA18.get rfl) rfl) fun a23 hA23 _ => ?_)
      refine sq (opk_val hA23 rfl (r_assign (hA23.get rfl)) fun a24 hA24 _ => ?_)
      refine sq_end ?_
      have hA25 := hA24.keep [(1, .int .i64 scope_2), (5, .string (Bs name_1)), (9, .bool (decide (name_1 = ([97, 112, 112, 108, 101, 116] : Str))))] ⟨rfl, rfl, rfl, trivial⟩
      refine then_normal ?_
      refine wp_meet (fun a wq => Ag 27 a [(1, .int .i64 scope_2), (5, .string (Bs name_1)), (9, .bool ((decide (name_1 = ([97, 112, 112, 108, 101, 116] : Str))) || ((decide (name_1 = ([99, 97, 112, 116, 105, 111, 110] : Str))) || ((decide (name_1 = ([116, 100] : Str))) || ((decide (name_1 = ([116, 104] : Str))) || ((decide (name_1 = ([109, 97, 114, 113, 117, 101, 101] : Str))) || (decide (name_1 = ([111, 98, 106, 101, 99, 116] : Str)))))))))] ∧ wq = w) ?_ ?_
      · refine wp_cond_split (hA25.get rfl) (fun hc => ?_) (fun hc => ?_)
        · refine wp_skip ?_
          have hA164 := hA25.say (t := 9) rfl (.bool ((decide (name_1 = ([97, 112, 112, 108, 101, 116] : Str))) || ((decide (name_1 = ([99, 97, 112, 116, 105, 111, 110] : Str))) || ((decide (name_1 = ([116, 100] : Str))) || ((decide (name_1 = ([116, 104] : Str))) || ((decide (name_1 = ([109, 97, 114, 113, 117, 101, 101] : Str))) || (decide (name_1 = ([111, 98, 106, 101, 99, 116] : Str))))))))) (by rw [hc]; rfl)
          exact then_normal ⟨hA164.keep [(1, .int .i64 scope_2), (5, .string (Bs name_1)), (9, .bool ((decide (name_1 = ([97, 112, 112, 108, 101, 116] : Str))) || ((decide (name_1 = ([99, 97, 112, 116, 105, 111, 110] : Str))) || ((decide (name_1 = ([116, 100] : Str))) || ((decide (name_1 = ([116, 104] : Str))) || ((decide (name_1 = ([109, 97, 114, 113, 117, 101, 101] : Str))) || (decide (name_1 = ([111, 98, 106, 101, 99, 116] : Str)))))))))] ⟨rfl, rfl, rfl, trivial⟩, rfl⟩
        · refine wp_seq ?_
          refine wp_region_lit ?_
          refine sq (opk_val hA25 rfl (r_seql (hA25.get rfl) rfl) fun a165 hA165 _ => ?_)
          refine sq (opk_val hA165 rfl (r_assign (hA165.get rfl)) fun a166 hA166 _ => ?_)
          refine sq_end ?_
          have hA167 := hA166.keep [(1, .int .i64 scope_2), (5, .string (Bs name_1)), (9, .bool (decide (name_1 = ([99, 97, 112, 116, 105, 111, 110] : Str))))] ⟨rfl, rfl, rfl, trivial⟩
          refine then_normal ?_
          refine wp_meet (fun a wq => Ag 27 a [(1, .int .i64 scope_2), (5, .string (Bs name_1)), (9, .bool ((decide (name_1 = ([99, 97, 112, 116, 105, 111, 110] : Str))) || ((decide (name_1 = ([116, 100] : Str))) || ((decide (name_1 = ([116, 104] : Str))) || ((decide (name_1 = ([109, 97, 114, 113, 117, 101, 101] : Str))) || (decide (name_1 = ([111, 98, 106, 101, 99, 116] : Str))))))))] ∧ wq = w) ?_ ?_
          · refine wp_cond_split (hA167.get rfl) (fun hc => ?_) (fun hc => ?_)
            · refine wp_skip ?_
              have hA234 := hA167.say (t := 9) rfl (.bool ((decide (name_1 = ([99, 97, 112, 116, 105, 111, 110] : Str))) || ((decide (name_1 = ([116, 100] : Str))) || ((decide (name_1 = ([116, 104] : Str))) || ((decide (name_1 = ([109, 97, 114, 113, 117, 101, 101] : Str))) || (decide (name_1 = ([111, 98, 106, 101, 99, 116] : Str)))))))) (by rw [hc]; rfl)
              exact then_normal ⟨hA234.keep [(1, .int .i64 scope_2), (5, .string (Bs name_1)), (9, .bool ((decide (name_1 = ([99, 97, 112, 116, 105, 111, 110] : Str))) || ((decide (name_1 = ([116, 100] : Str))) || ((decide (name_1 = ([116, 104] : Str))) || ((decide (name_1 = ([109, 97, 114, 113, 117, 101, 101] : Str))) || (decide (name_1 = ([111, 98, 106, 101, 99, 116] : Str))))))))] ⟨rfl, rfl, rfl, trivial⟩, rfl⟩
            · refine wp_seq ?_
              refine wp_region_lit ?_
              refine sq (opk_val hA167 rfl (r_seql (hA167.get rfl) rfl) fun a235 hA235 _ => ?_)
              refine sq (opk_val hA235 rfl (r_assign (hA235.get rfl)) fun a236 hA236 _ => ?_)
              refine sq_end ?_
              have hA237 := hA236.keep [(1, .int .i64 scope_2), (5, .string (Bs name_1)), (9, .bool (decide (name_1 = ([116, 100] : Str))))] ⟨rfl, rfl, rfl, trivial⟩
              refine then_normal ?_
              refine wp_meet (fun a wq => Ag 27 a [(1, .int .i64 scope_2), (5, .string (Bs name_1)), (9, .bool ((decide (name_1 = ([116, 100] : Str))) || ((decide (name_1 = ([116, 104] : Str))) || ((decide (name_1 = ([109, 97, 114, 113, 117, 101, 101] : Str))) || (decide (name_1 = ([111, 98, 106, 101, 99, 116] : Str)))))))] ∧ wq = w) ?_ ?_
              · refine wp_cond_split (hA237.get rfl) (fun hc => ?_) (fun hc => ?_)
                · refine wp_skip ?_
                  have hA268 := hA237.say (t := 9) rfl (.bool ((decide (name_1 = ([116, 100] : Str))) || ((decide (name_1 = ([116, 104] : Str))) || ((decide (name_1 = ([109, 97, 114, 113, 117, 101, 101] : Str))) || (decide (name_1 = ([111, 98, 106, 101, 99, 116] : Str))))))) (by rw [hc]; rfl)
                  exact then_normal ⟨hA268.keep [(1, .int .i64 scope_2), (5, .string (Bs name_1)), (9, .bool ((decide (name_1 = ([116, 100] : Str))) || ((decide (name_1 = ([116, 104] : Str))) || ((decide (name_1 = ([109, 97, 114, 113, 117, 101, 101] : Str))) || (decide (name_1 = ([111, 98, 106, 101, 99, 116] : Str)))))))] ⟨rfl, rfl, rfl, trivial⟩, rfl⟩
                · refine wp_seq ?_
                  refine wp_region_lit ?_
                  refine sq (opk_val hA237 rfl (r_seql (hA237.get rfl) rfl) fun a269 hA269 _ => ?_)
                  refine sq (opk_val hA269 rfl (r_assign (hA269.get rfl)) fun a270 hA270 _ => ?_)
                  refine sq_end ?_
                  have hA271 := hA270.keep [(1, .int .i64 scope_2), (5, .string (Bs name_1)), (9, .bool (decide (name_1 = ([116, 104] : Str))))] ⟨rfl, rfl, rfl, trivial⟩
                  refine then_normal ?_
                  refine wp_meet (fun a wq => Ag 27 a [(1, .int .i64 scope_2), (5, .string (Bs name_1)), (9, .bool ((decide (name_1 = ([116, 104] : Str))) || ((decide (name_1 = ([109, 97, 114, 113, 117, 101, 101] : Str))) || (decide (name_1 = ([111, 98, 106, 101, 99, 116] : Str))))))] ∧ wq = w) ?_ ?_
                  · refine wp_cond_split (hA271.get rfl) (fun hc => ?_) (fun hc => ?_)
                    · refine wp_skip ?_
                      have hA284 := hA271.say (t := 9) rfl (.bool ((decide (name_1 = ([116, 104] : Str))) || ((decide (name_1 = ([109, 97, 114, 113, 117, 101, 101] : Str))) || (decide (name_1 = ([111, 98, 106, 101, 99, 116] : Str)))))) (by rw [hc]; rfl)
                      exact then_normal ⟨hA284.keep [(1, .int .i64 scope_2), (5, .string (Bs name_1)), (9, .bool ((decide (name_1 = ([116, 104] : Str))) || ((decide (name_1 = ([109, 97, 114, 113, 117, 101, 101] : Str))) || (decide (name_1 = ([111, 98, 106, 101, 99, 116] : Str))))))] ⟨rfl, rfl, rfl, trivial⟩, rfl⟩
                    · refine wp_seq ?_
                      refine wp_region_lit ?_
                      refine sq (opk_val hA271 rfl (r_seql (hA271.get rfl) rfl) fun a285 hA285 _ => ?_)
                      refine sq (opk_val hA285 rfl (r_assign (hA285.get rfl)) fun a286 hA286 _ => ?_)
                      refine sq_end ?_
                      have hA287 := hA286.keep [(1, .int .i64 scope_2), (5, .string (Bs name_1)), (9, .bool (decide (name_1 = ([109, 97, 114, 113, 117, 101, 101] : Str))))] ⟨rfl, rfl, rfl, trivial⟩
                      refine then_normal ?_
                      refine wp_meet (fun a wq => Ag 27 a [(1, .int .i64 scope_2), (5, .string (Bs name_1)), (9, .bool ((decide (name_1 = ([109, 97, 114, 113, 117, 101, 101] : Str))) || (decide (name_1 = ([111, 98, 106, 101, 99, 116] : Str)))))] ∧ wq = w) ?_ ?_
                      · refine wp_cond_split (hA287.get rfl) (fun hc => ?_) (fun hc => ?_)
                        · refine wp_skip ?_
                          have hA291 := hA287.say (t := 9) rfl (.bool ((decide (name_1 = ([109, 97, 114, 113, 117, 101, 101] : Str))) || (decide (name_1 = ([111, 98, 106, 101, 99, 116] : Str))))) (by rw [hc]; rfl)
                          exact then_normal ⟨hA291.keep [(1, .int .i64 scope_2), (5, .string (Bs name_1)), (9, .bool ((decide (name_1 = ([109, 97, 114, 113, 117, 101, 101] : Str))) || (decide (name_1 = ([111, 98, 106, 101, 99, 116] : Str)))))] ⟨rfl, rfl, rfl, trivial⟩, rfl⟩
                        · refine wp_region_lit ?_
                          refine sq (opk_val hA287 rfl (r_seql (hA287.get rfl) rfl) fun a292 hA292 _ => ?_)
                          refine sq (opk_val hA292 rfl (r_assign (hA292.get rfl)) fun a293 hA293 _ => ?_)
                          refine sq_end ?_
                          have hA294 := hA293.keep [(1, .int .i64 scope_2), (5, .string (Bs name_1)), (9, .bool (decide (name_1 = ([111, 98, 106, 101, 99, 116] : Str))))] ⟨rfl, rfl, rfl, trivial⟩
                          have hA295 := hA294.say (t := 9) rfl (.bool ((decide (name_1 = ([109, 97, 114, 113, 117, 101, 101] : Str))) || (decide (name_1 = ([111, 98, 106, 101, 99, 116] : Str))))) (by rw [hc]; rfl)
                          exact then_normal ⟨hA295.keep [(1, .int .i64 scope_2), (5, .string (Bs name_1)), (9, .bool ((decide (name_1 = ([109, 97, 114, 113, 117, 101, 101] : Str))) || (decide (name_1 = ([111, 98, 106, 101, 99, 116] : Str)))))] ⟨rfl, rfl, rfl, trivial⟩, rfl⟩
                      · rintro a296 w_ ⟨hA296, hw_⟩
                        have hw_ : w = w_ := hw_.symm
                        subst hw_
                        have hA297 := hA296.say (t := 9) rfl (.bool ((decide (name_1 = ([116, 104] : Str))) || ((decide (name_1 = ([109, 97, 114, 113, 117, 101, 101] : Str))) || (decide (name_1 = ([111, 98, 106, 101, 99, 116] : Str)))))) (by rw [hc]; rfl)
                        exact then_normal ⟨hA297.keep [(1, .int .i64 scope_2), (5, .string (Bs name_1)), (9, .bool ((decide (name_1 = ([116, 104] : Str))) || ((decide (name_1 = ([109, 97, 114, 113, 117, 101, 101] : Str))) || (decide (name_1 = ([111, 98, 106, 101, 99, 116] : Str))))))] ⟨rfl, rfl, rfl, trivial⟩, rfl⟩
                  · rintro a298 w_ ⟨hA298, hw_⟩
                    have hw_ : w = w_ := hw_.symm
                    subst hw_
                    have hA299 := hA298.say (t := 9) rfl (.bool ((decide (name_1 = ([116, 100] : Str))) || ((decide (name_1 = ([116, 104] : Str))) || ((decide (name_1 = ([109, 97, 114, 113, 117, 101, 101] : Str))) || (decide (name_1 = ([111, 98, 106, 101, 99, 116] : Str))))))) (by rw [hc]; rfl)
                    exact then_normal ⟨hA299.keep [(1, .int .i64 scope_2), (5, .string (Bs name_1)), (9, .bool ((decide (name_1 = ([116, 100] : Str))) || ((decide (name_1 = ([116, 104] : Str))) || ((decide (name_1 = ([109, 97, 114, 113, 117, 101, 101] : Str))) || (decide (name_1 = ([111, 98, 106, 101, 99, 116] : Str)))))))] ⟨rfl, rfl, rfl, trivial⟩, rfl⟩
              · rintro a300 w_ ⟨hA300, hw_⟩
                have hw_ : w = w_ := hw_.symm
                subst hw_
                have hA301 := hA300.say (t := 9) rfl (.bool ((decide (name_1 = ([99, 97, 112, 116, 105, 111, 110] : Str))) || ((decide (name_1 = ([116, 100] : Str))) || ((decide (name_1 = ([116, 104] : Str))) || ((decide (name_1 = ([109, 97, 114, 113, 117, 101, 101] : Str))) || (decide (name_1 = ([111, 98, 106, 101, 99, 116] : Str)))))))) (by rw [hc]; rfl)
                exact then_normal ⟨hA301.keep [(1, .int .i64 scope_2), (5, .string (Bs name_1)), (9, .bool ((decide (name_1 = ([99, 97, 112, 116, 105, 111, 110] : Str))) || ((decide (name_1 = ([116, 100] : Str))) || ((decide (name_1 = ([116, 104] : Str))) || ((decide (name_1 = ([109, 97, 114, 113, 117, 101, 101] : Str))) || (decide (name_1 = ([111, 98, 106, 101, 99, 116] : Str))))))))] ⟨rfl, rfl, rfl, trivial⟩, rfl⟩
          · rintro a302 w_ ⟨hA302, hw_⟩
            have hw_ : w = w_ := hw_.symm
            subst hw_
            have hA303 := hA302.say (t := 9) rfl (.bool ((decide (name_1 = ([97, 112, 112, 108, 101, 116] : Str))) || ((decide (name_1 = ([99, 97, 112, 116, 105, 111, 110] : Str))) || ((decide (name_1 = ([116, 100] : Str))) || ((decide (name_1 = ([116, 104] : Str))) || ((decide (name_1 = ([109, 97, 114, 113, 117, 101, 101] : Str))) || (decide (name_1 = ([111, 98, 106, 101, 99, 116] : Str))))))))) (by rw [hc]; rfl)
            exact then_normal ⟨hA303.keep [(1, .int .i64 scope_2), (5, .string (Bs name_1)), (9, .bool ((decide (name_1 = ([97, 112, 112, 108, 101, 116] : Str))) || ((decide (name_1 = ([99, 97, 112, 116, 105, 111, 110] : Str))) || ((decide (name_1 = ([116, 100] : Str))) || ((decide (name_1 = ([116, 104] : Str))) || ((decide (name_1 = ([109, 97, 114, 113, 117, 101, 101] : Str))) || (decide (name_1 = ([111, 98, 106, 101, 99, 116] : Str)))))))))] ⟨rfl, rfl, rfl, trivial⟩, rfl⟩
      · rintro a304 w_ ⟨hA304, hw_⟩
        have hw_ : w = w_ := hw_.symm
        subst hw_
        refine then_normal ?_
        refine wp_cond_split (hA304.get rfl) (fun hc => ?_) (fun hc => ?_)
        · have ht305 := ht20.1 ((b_or_t hc).imp (fun h => (of_decide_eq_true h)) (fun h => ((b_or_t h).imp (fun h => (of_decide_eq_true h)) (fun h => ((b_or_t h).imp (fun h => (of_decide_eq_true h)) (fun h => ((b_or_t h).imp (fun h => (of_decide_eq_true h)) (fun h => ((b_or_t h).imp (fun h => (of_decide_eq_true h)) (fun h => (of_decide_eq_true h)))))))))))
          clear hc
          refine wp_seq ?_
          refine wp_region_lit ?_
          refine sq (opk_val hA304 rfl (r_move (hA304.get rfl)) fun a307 hA307 _ => ?_)
          refine sq (opk_val hA307 rfl (r_neq (hA307.get rfl) rfl) fun a308 hA308 _ => ?_)
          refine sq (opk_val hA308 rfl (r_assign (hA308.get rfl)) fun a309 hA309 _ => ?_)
          refine sq_end ?_
          have hA310 := hA309.keep [(4, .bool (decide (scope_2 ≠ 4)))] ⟨rfl, trivial⟩
          refine then_normal ?_
          refine wp_ret ?_
          refine block_ret ?_
          refine then_ret ?_
          exact res_all (vs := [.bool (decide (scope_2 ≠ 4))]) rfl hA310 ⟨res_of_tmp hA310 rfl, trivial⟩ ht305
        · have ht306 := ht20.2 ⟨(of_decide_eq_false (b_or_f hc).1), ⟨(of_decide_eq_false (b_or_f (b_or_f hc).2).1), ⟨(of_decide_eq_false (b_or_f (b_or_f (b_or_f hc).2).2).1), ⟨(of_decide_eq_false (b_or_f (b_or_f (b_or_f (b_or_f hc).2).2).2).1), ⟨(of_decide_eq_false (b_or_f (b_or_f (b_or_f (b_or_f (b_or_f hc).2).2).2).2).1), (of_decide_eq_false (b_or_f (b_or_f (b_or_f (b_or_f (b_or_f hc).2).2).2).2).2)⟩⟩⟩⟩⟩
          clear hc
          refine wp_seq ?_
          refine wp_seq ?_
          refine wp_region_lit ?_
          refine sq (opk_val hA304 rfl (r_seql (hA304.get rfl) rfl) fun a311 hA311 _ => ?_)
          refine sq (opk_val hA311 rfl (r_assign (hA311.get rfl)) fun a312 hA312 _ => ?_)
          refine sq_end ?_
          have hA313 := hA312.keep [(1, .int .i64 scope_2), (5, .string (Bs name_1)), (18, .bool (decide (name_1 = ([111, 108] : Str))))] ⟨rfl, rfl, rfl, trivial⟩
          refine then_normal ?_
          refine wp_meet (fun a wq => Ag 27 a [(1, .int .i64 scope_2), (5, .string (Bs name_1)), (18, .bool ((decide (name_1 = ([111, 108] : Str))) || (decide (name_1 = ([117, 108] : Str)))))] ∧ wq = w) ?_ ?_
          · refine wp_cond_split (hA313.get rfl) (fun hc => ?_) (fun hc => ?_)
            · refine wp_skip ?_
              have hA317 := hA313.say (t := 18) rfl (.bool ((decide (name_1 = ([111, 108] : Str))) || (decide (name_1 = ([117, 108] : Str))))) (by rw [hc]; rfl)
              exact then_normal ⟨hA317.keep [(1, .int .i64 scope_2), (5, .string (Bs name_1)), (18, .bool ((decide (name_1 = ([111, 108] : Str))) || (decide (name_1 = ([117, 108] : Str)))))] ⟨rfl, rfl, rfl, trivial⟩, rfl⟩
            · refine wp_region_lit ?_
              refine sq (opk_val hA313 rfl (r_seql (hA313.get rfl) rfl) fun a318 hA318 _ => ?_)
              refine sq (opk_val hA318 rfl (r_assign (hA318.get rfl)) fun a319 hA319 _ => ?_)
              refine sq_end ?_
              have hA320 := hA319.keep [(1, .int .i64 scope_2), (5, .string (Bs name_1)), (18, .bool (decide (name_1 = ([117, 108] : Str))))] ⟨rfl, rfl, rfl, trivial⟩
              have hA321 := hA320.say (t := 18) rfl (.bool ((decide (name_1 = ([111, 108] : Str))) || (decide (name_1 = ([117, 108] : Str))))) (by rw [hc]; rfl)
              exact then_normal ⟨hA321.keep [(1, .int .i64 scope_2), (5, .string (Bs name_1)), (18, .bool ((decide (name_1 = ([111, 108] : Str))) || (decide (name_1 = ([117, 108] : Str)))))] ⟨rfl, rfl, rfl, trivial⟩, rfl⟩
          · rintro a322 w_ ⟨hA322, hw_⟩
            have hw_ : w = w_ := hw_.symm
            subst hw_
            refine then_normal ?_
            refine wp_cond_split (hA322.get rfl) (fun hc => ?_) (fun hc => ?_)
            · have ht323 := ht306.1 ((b_or_t hc).imp (fun h => (of_decide_eq_true h)) (fun h => (of_decide_eq_true h)))
              clear hc
              refine wp_seq ?_
              refine wp_region_lit ?_
              refine sq (opk_val hA322 rfl (r_move (hA322.get rfl)) fun a325 hA325 _ => ?_)
              refine sq (opk_val hA325 rfl (r_eql (hA325.get rfl) rfl) fun a326 hA326 _ => ?_)
              refine sq (opk_val hA326 rfl (r_assign (hA326.get rfl)) fun a327 hA327 _ => ?_)
              refine sq_end ?_
              have hA328 := hA327.keep [(4, .bool (decide (scope_2 = 2)))] ⟨rfl, trivial⟩
              refine then_normal ?_
              refine wp_ret ?_
              refine block_ret ?_
              refine then_ret ?_
              exact res_all (vs := [.bool (decide (scope_2 = 2))]) rfl hA328 ⟨res_of_tmp hA328 rfl, trivial⟩ ht323
            · have ht324 := ht306.2 ⟨(of_decide_eq_false (b_or_f hc).1), (of_decide_eq_false (b_or_f hc).2)⟩
              clear hc
              refine wp_seq ?_
              refine wp_region_lit ?_
              refine sq (opk_val hA322 rfl (r_seql (hA322.get rfl) rfl) fun a329 hA329 _ => ?_)
              refine sq (opk_val hA329 rfl (r_assign (hA329.get rfl)) fun a330 hA330 _ => ?_)
              refine sq_end ?_
              have hA331 := hA330.keep [(1, .int .i64 scope_2), (23, .bool (decide (name_1 = ([98, 117, 116, 116, 111, 110] : Str))))] ⟨rfl, rfl, trivial⟩
              refine then_normal ?_
              refine wp_cond_split (hA331.get rfl) (fun hc => ?_) (fun hc => ?_)
              · have ht332 := ht324.1 (of_decide_eq_true hc)
                clear hc
                refine wp_seq ?_
                refine wp_region_lit ?_
                refine sq (opk_val hA331 rfl (r_move (hA331.get rfl)) fun a334 hA334 _ => ?_)
                refine sq (opk_val hA334 rfl (r_eql (hA334.get rfl) rfl) fun a335 hA335 _ => ?_)
                refine sq (opk_val hA335 rfl (r_assign (hA335.get rfl)) fun a336 hA336 _ => ?_)
                refine sq_end ?_
                have hA337 := hA336.keep [(4, .bool (decide (scope_2 = 3)))] ⟨rfl, trivial⟩
                refine then_normal ?_
                refine wp_ret ?_
                refine block_ret ?_
                refine then_ret ?_
                exact res_all (vs := [.bool (decide (scope_2 = 3))]) rfl hA337 ⟨res_of_tmp hA337 rfl, trivial⟩ ht332
              · have ht333 := ht324.2 (of_decide_eq_false hc)
                clear hc
                refine wp_skip ?_
                refine block_normal ?_
                refine then_normal ?_
                refine wp_seq ?_
                refine wp_region_lit ?_
                refine sq (opk_val hA331 rfl (r_assign rfl) fun a338 hA338 _ => ?_)
                refine sq_end ?_
                have hA339 := hA338.keep [(4, .bool false)] ⟨rfl, trivial⟩
                refine then_normal ?_
                refine wp_ret ?_
                exact res_all (vs := [.bool false]) rfl hA339 ⟨res_of_tmp hA339 rfl, trivial⟩ ht333

end Go.Proofs.YtnmpenfpajfoaaaDoor
