/-
  PRINTED BY PROGRAM: for each function its condition (vc), and that this suffices (ok).
-/
import Derived.Test.YtghmgfkdnolcdaaQApplyInsertsGT
namespace Go.Proofs.Ytghmgfkdnolcdaa
open Go.RowKit
set_option linter.unusedVariables false

/-- The condition of slices.Insert[[]intint]. -/
def slices_Insert__int_int_.vc (s_1 : Sl) (i_2 : Int) (v_3 : Sl) (R : Value → World → Prop) (w : World) : Prop :=
((0 : Int) ≤ i_2 ∧ i_2 ≤ (s_1.n : Int)) ∧
(((v_3.n : Int) = 0) →
R (Sl.v s_1) w) ∧
((¬ ((v_3.n : Int) = 0)) →
((i_2 = (s_1.n : Int)) →
RunK Try.prog (Builtin.append_ #[36, 36] 36 #[Sl.v s_1, Sl.v v_3]) w [] (fun v w37 => ∃ (r_43 : Sl), v = Sl.v r_43 ∧
R (Sl.v r_43) w37)) ∧
((¬ (i_2 = (s_1.n : Int))) →
(I64 ((s_1.n : Int) + (v_3.n : Int))) ∧
(((s_1.c : Int) < ((s_1.n : Int) + (v_3.n : Int))) →
((0 : Int) ≤ i_2 ∧ i_2 ≤ (s_1.c : Int)) ∧
(I64 ((s_1.n : Int) + (v_3.n : Int))) ∧
(I64 (((s_1.n : Int) + (v_3.n : Int)) - i_2)) ∧
RunK Try.prog (Builtin.append_ #[36, 3] 36 #[Sl.v (Sl.cut s_1 1 0 i_2.toNat s_1.c), .int .i64 (((s_1.n : Int) + (v_3.n : Int)) - i_2)]) w [] (fun v w72 => ∃ (r_78 : Sl), v = Sl.v r_78 ∧
((0 : Int) ≤ i_2 ∧ i_2 ≤ (r_78.n : Int)) ∧
RunK Try.prog (Builtin.copy_ #[36, 36] 3 #[Sl.v (Sl.cut r_78 1 i_2.toNat r_78.n r_78.c), Sl.v v_3]) w72 [] (fun v w88 => ∃ (r_94 : Int), v = .int .i64 r_94 ∧
∀ (w96 : World), Chg [] w88 w96 →
(I64 (i_2 + (v_3.n : Int))) ∧
((0 : Int) ≤ i_2 + (v_3.n : Int) ∧ i_2 + (v_3.n : Int) ≤ (r_78.n : Int)) ∧
((0 : Int) ≤ i_2 ∧ i_2 ≤ (s_1.n : Int)) ∧
∀ (w113 : World), Chg [] w96 w113 →
RunK Try.prog (Builtin.copy_ #[36, 36] 3 #[Sl.v (Sl.cut r_78 1 (i_2 + (v_3.n : Int)).toNat r_78.n r_78.c), Sl.v (Sl.cut s_1 1 i_2.toNat s_1.n s_1.c)]) w113 [] (fun v w125 => ∃ (r_131 : Int), v = .int .i64 r_131 ∧
R (Sl.v r_78) w125)))) ∧
((¬ ((s_1.c : Int) < ((s_1.n : Int) + (v_3.n : Int)))) →
(I64 ((s_1.n : Int) + (v_3.n : Int))) ∧
((0 : Int) ≤ (s_1.n : Int) + (v_3.n : Int) ∧ (s_1.n : Int) + (v_3.n : Int) ≤ (s_1.c : Int)) ∧
(I64 (i_2 + (v_3.n : Int))) ∧
((0 : Int) ≤ i_2 + (v_3.n : Int) ∧ i_2 + (v_3.n : Int) ≤ ((Sl.cut s_1 1 0 ((s_1.n : Int) + (v_3.n : Int)).toNat s_1.c).n : Int)) ∧
∃ r_158 : Bool, ((Extern.SlicesOverlaps.overlaps #[36, 36] #[4] #[Sl.v v_3, Sl.v (Sl.cut (Sl.cut s_1 1 0 ((s_1.n : Int) + (v_3.n : Int)).toNat s_1.c) 1 (i_2 + (v_3.n : Int)).toNat (Sl.cut s_1 1 0 ((s_1.n : Int) + (v_3.n : Int)).toNat s_1.c).n (Sl.cut s_1 1 0 ((s_1.n : Int) + (v_3.n : Int)).toNat s_1.c).c)]).run Try.prog w = .ok (.bool r_158) w) ∧
((r_158 = false) →
∀ (w165 : World), Chg [] w w165 →
(I64 (i_2 + (v_3.n : Int))) ∧
((0 : Int) ≤ i_2 + (v_3.n : Int) ∧ i_2 + (v_3.n : Int) ≤ ((Sl.cut s_1 1 0 ((s_1.n : Int) + (v_3.n : Int)).toNat s_1.c).n : Int)) ∧
((0 : Int) ≤ i_2 ∧ i_2 ≤ ((Sl.cut s_1 1 0 ((s_1.n : Int) + (v_3.n : Int)).toNat s_1.c).n : Int)) ∧
∀ (w182 : World), Chg [] w165 w182 →
RunK Try.prog (Builtin.copy_ #[36, 36] 3 #[Sl.v (Sl.cut (Sl.cut s_1 1 0 ((s_1.n : Int) + (v_3.n : Int)).toNat s_1.c) 1 (i_2 + (v_3.n : Int)).toNat (Sl.cut s_1 1 0 ((s_1.n : Int) + (v_3.n : Int)).toNat s_1.c).n (Sl.cut s_1 1 0 ((s_1.n : Int) + (v_3.n : Int)).toNat s_1.c).c), Sl.v (Sl.cut (Sl.cut s_1 1 0 ((s_1.n : Int) + (v_3.n : Int)).toNat s_1.c) 1 i_2.toNat (Sl.cut s_1 1 0 ((s_1.n : Int) + (v_3.n : Int)).toNat s_1.c).n (Sl.cut s_1 1 0 ((s_1.n : Int) + (v_3.n : Int)).toNat s_1.c).c)]) w182 [] (fun v w194 => ∃ (r_200 : Int), v = .int .i64 r_200 ∧
((0 : Int) ≤ i_2 ∧ i_2 ≤ ((Sl.cut s_1 1 0 ((s_1.n : Int) + (v_3.n : Int)).toNat s_1.c).n : Int)) ∧
RunK Try.prog (Builtin.copy_ #[36, 36] 3 #[Sl.v (Sl.cut (Sl.cut s_1 1 0 ((s_1.n : Int) + (v_3.n : Int)).toNat s_1.c) 1 i_2.toNat (Sl.cut s_1 1 0 ((s_1.n : Int) + (v_3.n : Int)).toNat s_1.c).n (Sl.cut s_1 1 0 ((s_1.n : Int) + (v_3.n : Int)).toNat s_1.c).c), Sl.v v_3]) w194 [] (fun v w209 => ∃ (r_215 : Int), v = .int .i64 r_215 ∧
R (Sl.v (Sl.cut s_1 1 0 ((s_1.n : Int) + (v_3.n : Int)).toNat s_1.c)) w209))) ∧
((r_158 = true) →
((0 : Int) ≤ (s_1.n : Int) ∧ (s_1.n : Int) ≤ ((Sl.cut s_1 1 0 ((s_1.n : Int) + (v_3.n : Int)).toNat s_1.c).n : Int)) ∧
RunK Try.prog (Builtin.copy_ #[36, 36] 3 #[Sl.v (Sl.cut (Sl.cut s_1 1 0 ((s_1.n : Int) + (v_3.n : Int)).toNat s_1.c) 1 (s_1.n : Int).toNat (Sl.cut s_1 1 0 ((s_1.n : Int) + (v_3.n : Int)).toNat s_1.c).n (Sl.cut s_1 1 0 ((s_1.n : Int) + (v_3.n : Int)).toNat s_1.c).c), Sl.v v_3]) w [] (fun v w227 => ∃ (r_233 : Int), v = .int .i64 r_233 ∧
((0 : Int) ≤ i_2 ∧ i_2 ≤ ((Sl.cut s_1 1 0 ((s_1.n : Int) + (v_3.n : Int)).toNat s_1.c).n : Int)) ∧
CallK Try.prog 75 #[Sl.v (Sl.cut (Sl.cut s_1 1 0 ((s_1.n : Int) + (v_3.n : Int)).toNat s_1.c) 1 i_2.toNat (Sl.cut s_1 1 0 ((s_1.n : Int) + (v_3.n : Int)).toNat s_1.c).n (Sl.cut s_1 1 0 ((s_1.n : Int) + (v_3.n : Int)).toNat s_1.c).c), .int .i64 (v_3.n : Int)] w227 [] (fun v w242 => v = .tuple #[] ∧
R (Sl.v (Sl.cut s_1 1 0 ((s_1.n : Int) + (v_3.n : Int)).toNat s_1.c)) w242))))))
set_option maxHeartbeats 1000000 in
set_option maxRecDepth 10000 in
theorem slices_Insert__int_int_.ok (s_1 : Sl) (i_2 : Int) (v_3 : Sl) {R : Value → World → Prop} {w : World} (ht0 : slices_Insert__int_int_.vc s_1 i_2 v_3 R w) : Calls Try.prog 49 #[Sl.v s_1, .int .i64 i_2, Sl.v v_3] w (Ret R) := by
  refine enter [Sl.v s_1, .int .i64 i_2, Sl.v v_3] Try.func49 rfl Try.ntmps49 rfl ?_
  intro a0 hA0
  unfold slices_Insert__int_int_.vc at ht0
  refine wp_seq ?_
  refine wp_region_lit ?_
  refine sq (opk_val hA0 rfl (r_assign rfl) fun a4 hA4 _ => ?_)
  refine sq_end ?_
  have hA5 := hA4.keep [(0, Sl.v s_1), (1, .int .i64 i_2), (2, Sl.v v_3)] ⟨rfl, rfl, rfl, trivial⟩
  refine then_normal ?_
  refine wp_seq ?_
  refine wp_region_lit ?_
  refine sq (opk_val hA5 rfl (r_move (hA5.get rfl)) fun a6 hA6 _ => ?_)
  refine sq (opk_val hA6 rfl (r_move (hA6.get rfl)) fun a7 hA7 _ => ?_)
  obtain ⟨hS9, ht10⟩ := ht0
  refine sq (opk_val hA7 rfl (r_sliceL (hA7.get rfl) (hA7.get rfl) Try.underlying36 ti_3 hS9) fun a8 hA8 _ => ?_)
  refine sq_end ?_
  have hA11 := hA8.keep [(0, Sl.v s_1), (1, .int .i64 i_2), (2, Sl.v v_3)] ⟨rfl, rfl, rfl, trivial⟩
  refine then_normal ?_
  refine wp_seq ?_
  refine wp_region_lit ?_
  refine sq (opk_val hA11 rfl (r_move (hA11.get rfl)) fun a12 hA12 _ => ?_)
  refine sq (opk_val hA12 rfl (r_len (hA12.get rfl) Try.underlying36) fun a13 hA13 _ => ?_)
  refine sq (opk_val hA13 rfl (r_assign (hA13.get rfl)) fun a14 hA14 _ => ?_)
  refine sq_end ?_
  have hA15 := hA14.keep [(0, Sl.v s_1), (1, .int .i64 i_2), (2, Sl.v v_3), (7, .int .i64 (v_3.n : Int))] ⟨rfl, rfl, rfl, rfl, trivial⟩
  refine then_normal ?_
  refine wp_seq ?_
  refine wp_seq ?_
  refine wp_region_lit ?_
  refine sq (opk_val hA15 rfl (r_move (hA15.get rfl)) fun a16 hA16 _ => ?_)
  refine sq (opk_val hA16 rfl (r_eql (hA16.get rfl) rfl) fun a17 hA17 _ => ?_)
  refine sq_end ?_
  have hA18 := hA17.keep [(0, Sl.v s_1), (1, .int .i64 i_2), (2, Sl.v v_3), (7, .int .i64 (v_3.n : Int)), (16, .bool (decide ((v_3.n : Int) = 0)))] ⟨rfl, rfl, rfl, rfl, rfl, trivial⟩
  refine then_normal ?_
  refine wp_cond_split (hA18.get rfl) (fun hc => ?_) (fun hc => ?_)
  · have ht19 := ht10.1 (of_decide_eq_true hc)
    clear hc
    refine wp_seq ?_
    refine wp_region_lit ?_
    refine sq (opk_val hA18 rfl (r_move (hA18.get rfl)) fun a21 hA21 _ => ?_)
    refine sq (opk_val hA21 rfl (r_assign (hA21.get rfl)) fun a22 hA22 _ => ?_)
    refine sq_end ?_
    have hA23 := hA22.keep [(6, Sl.v s_1)] ⟨rfl, trivial⟩
    refine then_normal ?_
    refine wp_ret ?_
    refine then_ret ?_
    exact res_all (vs := [Sl.v s_1]) rfl hA23 ⟨res_of_tmp hA23 rfl, trivial⟩ ht19
  · have ht20 := ht10.2 (of_decide_eq_false hc)
    clear hc
    refine wp_skip ?_
    refine then_normal ?_
    refine wp_seq ?_
    refine wp_region_lit ?_
    refine sq (opk_val hA18 rfl (r_move (hA18.get rfl)) fun a24 hA24 _ => ?_)
    refine sq (opk_val hA24 rfl (r_len (hA24.get rfl) Try.underlying36) fun a25 hA25 _ => ?_)
    refine sq (opk_val hA25 rfl (r_assign (hA25.get rfl)) fun a26 hA26 _ => ?_)
    refine sq_end ?_
    have hA27 := hA26.keep [(0, Sl.v s_1), (1, .int .i64 i_2), (2, Sl.v v_3), (7, .int .i64 (v_3.n : Int)), (8, .int .i64 (s_1.n : Int))] ⟨rfl, rfl, rfl, rfl, rfl, trivial⟩
    refine then_normal ?_
    refine wp_seq ?_
    refine wp_seq ?_
    refine wp_region_lit ?_
    refine sq (opk_val hA27 rfl (r_move (hA27.get rfl)) fun a28 hA28 _ => ?_)
    refine sq (opk_val hA28 rfl (r_move (hA28.get rfl)) fun a29 hA29 _ => ?_)
    refine sq (opk_val hA29 rfl (r_eql (hA29.get rfl) (hA29.get rfl)) fun a30 hA30 _ => ?_)
    refine sq_end ?_
    have hA31 := hA30.keep [(0, Sl.v s_1), (1, .int .i64 i_2), (2, Sl.v v_3), (7, .int .i64 (v_3.n : Int)), (8, .int .i64 (s_1.n : Int)), (22, .bool (decide (i_2 = (s_1.n : Int))))] ⟨rfl, rfl, rfl, rfl, rfl, rfl, trivial⟩
    refine then_normal ?_
    refine wp_cond_split (hA31.get rfl) (fun hc => ?_) (fun hc => ?_)
    · have ht32 := ht20.1 (of_decide_eq_true hc)
      clear hc
      refine wp_seq ?_
      refine wp_region_lit ?_
      refine sq (opk_val hA31 rfl (r_move (hA31.get rfl)) fun a34 hA34 _ => ?_)
      refine sq (opk_val hA34 rfl (r_move (hA34.get rfl)) fun a35 hA35 _ => ?_)
      refine sq (opk_run hA35 rfl (fun _ _ hr => r_append (hA35.get rfl) (hA35.get rfl) hr) ht32 fun a36 v42 w37 hA36 _ hn39 hz40 hK41 => ?_)
      obtain ⟨r_43, rfl, ht38⟩ := hK41
      refine sq (opk_val hA36 rfl (r_assign (hA36.get rfl)) fun a44 hA44 _ => ?_)
      refine sq_end ?_
      have hA45 := hA44.keep [(6, Sl.v r_43)] ⟨rfl, trivial⟩
      refine then_normal ?_
      refine wp_ret ?_
      refine then_ret ?_
      exact res_all (vs := [Sl.v r_43]) rfl hA45 ⟨res_of_tmp hA45 rfl, trivial⟩ ht38
    · have ht33 := ht20.2 (of_decide_eq_false hc)
      clear hc
      refine wp_skip ?_
      refine then_normal ?_
      refine wp_seq ?_
      refine wp_seq ?_
      refine wp_region_lit ?_
      refine sq (opk_val hA31 rfl (r_move (hA31.get rfl)) fun a46 hA46 _ => ?_)
      refine sq (opk_val hA46 rfl (r_move (hA46.get rfl)) fun a47 hA47 _ => ?_)
      obtain ⟨hS49, ht50⟩ := ht33
      refine sq (opk_val hA47 rfl (r_addI (hA47.get rfl) (hA47.get rfl) hS49) fun a48 hA48 _ => ?_)
      refine sq (opk_val hA48 rfl (r_move (hA48.get rfl)) fun a51 hA51 _ => ?_)
      refine sq (opk_val hA51 rfl (r_cap (hA51.get rfl) Try.underlying36) fun a52 hA52 _ => ?_)
      refine sq (opk_val hA52 rfl (r_gtr (hA52.get rfl) (hA52.get rfl)) fun a53 hA53 _ => ?_)
      refine sq_end ?_
      have hA54 := hA53.keep [(0, Sl.v s_1), (1, .int .i64 i_2), (2, Sl.v v_3), (7, .int .i64 (v_3.n : Int)), (8, .int .i64 (s_1.n : Int)), (31, .bool (decide ((s_1.c : Int) < ((s_1.n : Int) + (v_3.n : Int)))))] ⟨rfl, rfl, rfl, rfl, rfl, rfl, trivial⟩
      refine then_normal ?_
      refine wp_cond_split (hA54.get rfl) (fun hc => ?_) (fun hc => ?_)
      · have ht55 := ht50.1 (of_decide_eq_true hc)
        clear hc
        refine wp_seq ?_
        refine wp_region_lit ?_
        refine sq (opk_val hA54 rfl (r_move (hA54.get rfl)) fun a57 hA57 _ => ?_)
        refine sq (opk_val hA57 rfl (r_move (hA57.get rfl)) fun a58 hA58 _ => ?_)
        obtain ⟨hS60, ht61⟩ := ht55
        refine sq (opk_val hA58 rfl (r_sliceH (hA58.get rfl) (hA58.get rfl) Try.underlying36 ti_3 hS60) fun a59 hA59 _ => ?_)
        refine sq (opk_val hA59 rfl (r_move (hA59.get rfl)) fun a62 hA62 _ => ?_)
        refine sq (opk_val hA62 rfl (r_move (hA62.get rfl)) fun a63 hA63 _ => ?_)
        obtain ⟨hS65, ht66⟩ := ht61
        refine sq (opk_val hA63 rfl (r_addI (hA63.get rfl) (hA63.get rfl) hS65) fun a64 hA64 _ => ?_)
        refine sq (opk_val hA64 rfl (r_move (hA64.get rfl)) fun a67 hA67 _ => ?_)
        obtain ⟨hS69, ht70⟩ := ht66
        refine sq (opk_val hA67 rfl (r_subI (hA67.get rfl) (hA67.get rfl) hS69) fun a68 hA68 _ => ?_)
        refine sq (opk_run hA68 rfl (fun _ _ hr => r_append (hA68.get rfl) (hA68.get rfl) hr) ht70 fun a71 v77 w72 hA71 _ hn74 hz75 hK76 => ?_)
        obtain ⟨r_78, rfl, ht73⟩ := hK76
        refine sq (opk_val hA71 rfl (r_assign (hA71.get rfl)) fun a79 hA79 _ => ?_)
        refine sq_end ?_
        have hA80 := hA79.keep [(0, Sl.v s_1), (1, .int .i64 i_2), (2, Sl.v v_3), (7, .int .i64 (v_3.n : Int)), (9, Sl.v r_78)] ⟨rfl, rfl, rfl, rfl, rfl, trivial⟩
        refine then_normal ?_
        refine wp_seq ?_
        refine wp_region_lit ?_
        refine sq (opk_val hA80 rfl (r_move (hA80.get rfl)) fun a81 hA81 _ => ?_)
        refine sq (opk_val hA81 rfl (r_move (hA81.get rfl)) fun a82 hA82 _ => ?_)
        obtain ⟨hS84, ht85⟩ := ht73
        refine sq (opk_val hA82 rfl (r_sliceL (hA82.get rfl) (hA82.get rfl) Try.underlying36 ti_3 hS84) fun a83 hA83 _ => ?_)
        refine sq (opk_val hA83 rfl (r_move (hA83.get rfl)) fun a86 hA86 _ => ?_)
        refine sq (opk_run hA86 rfl (fun _ _ hr => r_copy (hA86.get rfl) (hA86.get rfl) hr) ht85 fun a87 v93 w88 hA87 _ hn90 hz91 hK92 => ?_)
        obtain ⟨r_94, rfl, ht89⟩ := hK92
        refine sq_end ?_
        have hA95 := hA87.keep [(0, Sl.v s_1), (1, .int .i64 i_2), (7, .int .i64 (v_3.n : Int)), (9, Sl.v r_78)] ⟨rfl, rfl, rfl, rfl, trivial⟩
        refine then_normal ?_
        refine wp_seq ?_
        refine draw' (by kernel_rfl) fun w96 hE97 => ?_
        have hC98 : Chg [] w88 w96 := hE97
        have ht99 := ht89 w96    hC98
        obtain ⟨hS102, ht103⟩ := ht99
        obtain ⟨hS106, ht107⟩ := ht103
        obtain ⟨hS110, ht111⟩ := ht107
        refine par (D := [[], [], [], [1, 2], [0, 1, 2, 3], [], [], [5, 6], [0, 1, 2, 3, 4, 5, 6, 7]]) (S := [0, 1, 2, 3, 4, 5, 6, 7]) (F := []) (V := VL [(0, fun v _ => v = Sl.v r_78), (1, fun v _ => v = .int .i64 i_2), (2, fun v _ => v = .int .i64 (v_3.n : Int)), (3, fun v _ => v = .int .i64 (i_2 + (v_3.n : Int))), (4, fun v _ => v = Sl.v (Sl.cut r_78 1 (i_2 + (v_3.n : Int)).toNat r_78.n r_78.c)), (5, fun v _ => v = Sl.v s_1), (6, fun v _ => v = .int .i64 i_2), (7, fun v _ => v = Sl.v (Sl.cut s_1 1 i_2.toNat s_1.n s_1.c))]) hA95 (by kernel_rfl) ⟨fun _ _ _ _ h => by first | exact h | (change _ = _ at h; change _ = _; exact h), fun _ _ _ _ h => by first | exact h | (change _ = _ at h; change _ = _; exact h), fun _ _ _ _ h => by first | exact h | (change _ = _ at h; change _ = _; exact h), fun _ _ _ _ h => by first | exact h | (change _ = _ at h; change _ = _; exact h), fun _ _ _ _ h => by first | exact h | (change _ = _ at h; change _ = _; exact h), fun _ _ _ _ h => by first | exact h | (change _ = _ at h; change _ = _; exact h), fun _ _ _ _ h => by first | exact h | (change _ = _ at h; change _ = _; exact h), fun _ _ _ _ h => by first | exact h | (change _ = _ at h; change _ = _; exact h), trivial⟩ ⟨?_, ?_, ?_, ?_, ?_, ?_, ?_, ?_, trivial⟩ ?_
        · intro a w hT
          have hAp := hT.ag hA95 [(9, Sl.v r_78)] ⟨rfl, trivial⟩ (by kernel_rfl)
          exact opk_val hAp rfl (r_move (hAp.get rfl)) fun _ _ e => ⟨_, e, Chg.refl _ _, fun _ => Eq.refl _⟩
        · intro a w hT
          have hAp := hT.ag hA95 [(1, .int .i64 i_2)] ⟨rfl, trivial⟩ (by kernel_rfl)
          exact opk_val hAp rfl (r_move (hAp.get rfl)) fun _ _ e => ⟨_, e, Chg.refl _ _, fun _ => Eq.refl _⟩
        · intro a w hT
          have hAp := hT.ag hA95 [(7, .int .i64 (v_3.n : Int))] ⟨rfl, trivial⟩ (by kernel_rfl)
          exact opk_val hAp rfl (r_move (hAp.get rfl)) fun _ _ e => ⟨_, e, Chg.refl _ _, fun _ => Eq.refl _⟩
        · intro a w hT
          have hAp := hT.ag hA95 [] trivial (by kernel_rfl)
          have e100 : a.tmps.getD 47 undef = .int .i64 i_2 := hT.vals 1 rfl 47 rfl
          have hAp := hAp.add e100
          have e101 : a.tmps.getD 48 undef = .int .i64 (v_3.n : Int) := hT.vals 2 rfl 48 rfl
          have hAp := hAp.add e101
          exact opk_val hAp rfl (r_addI (hAp.get rfl) (hAp.get rfl) hS102) fun _ _ e => ⟨_, e, Chg.refl _ _, fun _ => Eq.refl _⟩
        · intro a w hT
          have hAp := hT.ag hA95 [] trivial (by kernel_rfl)
          have e104 : a.tmps.getD 46 undef = Sl.v r_78 := hT.vals 0 rfl 46 rfl
          have hAp := hAp.add e104
          have e105 : a.tmps.getD 49 undef = .int .i64 (i_2 + (v_3.n : Int)) := hT.vals 3 rfl 49 rfl
          have hAp := hAp.add e105
          exact opk_val hAp rfl (r_sliceL (hAp.get rfl) (hAp.get rfl) Try.underlying36 ti_3 hS106) fun _ _ e => ⟨_, e, Chg.refl _ _, fun _ => Eq.refl _⟩
        · intro a w hT
          have hAp := hT.ag hA95 [(0, Sl.v s_1)] ⟨rfl, trivial⟩ (by kernel_rfl)
          exact opk_val hAp rfl (r_move (hAp.get rfl)) fun _ _ e => ⟨_, e, Chg.refl _ _, fun _ => Eq.refl _⟩
        · intro a w hT
          have hAp := hT.ag hA95 [(1, .int .i64 i_2)] ⟨rfl, trivial⟩ (by kernel_rfl)
          exact opk_val hAp rfl (r_move (hAp.get rfl)) fun _ _ e => ⟨_, e, Chg.refl _ _, fun _ => Eq.refl _⟩
        · intro a w hT
          have hAp := hT.ag hA95 [] trivial (by kernel_rfl)
          have e108 : a.tmps.getD 51 undef = Sl.v s_1 := hT.vals 5 rfl 51 rfl
          have hAp := hAp.add e108
          have e109 : a.tmps.getD 52 undef = .int .i64 i_2 := hT.vals 6 rfl 52 rfl
          have hAp := hAp.add e109
          exact opk_val hAp rfl (r_sliceL (hAp.get rfl) (hAp.get rfl) Try.underlying36 ti_3 hS110) fun _ _ e => ⟨_, e, Chg.refl _ _, fun _ => Eq.refl _⟩
        · intro a112 w113 hE114 hag115 hv116
          have hA112 := hag115 [(9, Sl.v r_78)] ⟨rfl, trivial⟩ (by kernel_rfl)
          have e118 : a112.tmps.getD 50 undef = Sl.v (Sl.cut r_78 1 (i_2 + (v_3.n : Int)).toNat r_78.n r_78.c) := hv116 4 rfl 50 rfl
          have hA119 := hA112.add e118
          have e120 : a112.tmps.getD 53 undef = Sl.v (Sl.cut s_1 1 i_2.toNat s_1.n s_1.c) := hv116 7 rfl 53 rfl
          have hA121 := hA119.add e120
          have hC122 : Chg [] w96 w113 := hE114
          have ht123 := ht111 w113    hC122
          refine one (D := [[], [], [], [1, 2], [0, 1, 2, 3], [], [], [5, 6], [0, 1, 2, 3, 4, 5, 6, 7]]) (i := 8) rfl (by kernel_rfl) (opk_run hA121 rfl (fun _ _ hr => r_copy (hA121.get rfl) (hA121.get rfl) hr) ht123 fun a124 v130 w125 hA124 _ hn127 hz128 hK129 => ?_)
          obtain ⟨r_131, rfl, ht126⟩ := hK129
          refine PR_end (by kernel_rfl) ?_
          have hA132 := hA124.keep [(9, Sl.v r_78)] ⟨rfl, trivial⟩
          refine then_normal ?_
          refine wp_seq ?_
          refine wp_region_lit ?_
          refine sq (opk_val hA132 rfl (r_move (hA132.get rfl)) fun a133 hA133 _ => ?_)
          refine sq (opk_val hA133 rfl (r_assign (hA133.get rfl)) fun a134 hA134 _ => ?_)
          refine sq_end ?_
          have hA135 := hA134.keep [(6, Sl.v r_78)] ⟨rfl, trivial⟩
          refine then_normal ?_
          refine wp_ret ?_
          refine then_ret ?_
          exact res_all (vs := [Sl.v r_78]) rfl hA135 ⟨res_of_tmp hA135 rfl, trivial⟩ ht126
      · have ht56 := ht50.2 (of_decide_eq_false hc)
        clear hc
        refine wp_skip ?_
        refine then_normal ?_
        refine wp_seq ?_
        refine wp_region_lit ?_
        refine sq (opk_val hA54 rfl (r_move (hA54.get rfl)) fun a136 hA136 _ => ?_)
        refine sq (opk_val hA136 rfl (r_move (hA136.get rfl)) fun a137 hA137 _ => ?_)
        refine sq (opk_val hA137 rfl (r_move (hA137.get rfl)) fun a138 hA138 _ => ?_)
        obtain ⟨hS140, ht141⟩ := ht56
        refine sq (opk_val hA138 rfl (r_addI (hA138.get rfl) (hA138.get rfl) hS140) fun a139 hA139 _ => ?_)
        obtain ⟨hS143, ht144⟩ := ht141
        refine sq (opk_val hA139 rfl (r_sliceH (hA139.get rfl) (hA139.get rfl) Try.underlying36 ti_3 hS143) fun a142 hA142 _ => ?_)
        refine sq (opk_val hA142 rfl (r_assign (hA142.get rfl)) fun a145 hA145 _ => ?_)
        refine sq_end ?_
        have hA146 := hA145.keep [(0, Sl.v (Sl.cut s_1 1 0 ((s_1.n : Int) + (v_3.n : Int)).toNat s_1.c)), (1, .int .i64 i_2), (2, Sl.v v_3), (7, .int .i64 (v_3.n : Int)), (8, .int .i64 (s_1.n : Int))] ⟨rfl, rfl, rfl, rfl, rfl, trivial⟩
        refine then_normal ?_
        refine wp_seq ?_
        refine wp_seq ?_
        refine wp_region_lit ?_
        refine sq (opk_val hA146 rfl (r_move (hA146.get rfl)) fun a147 hA147 _ => ?_)
        refine sq (opk_val hA147 rfl (r_move (hA147.get rfl)) fun a148 hA148 _ => ?_)
        refine sq (opk_val hA148 rfl (r_move (hA148.get rfl)) fun a149 hA149 _ => ?_)
        refine sq (opk_val hA149 rfl (r_move (hA149.get rfl)) fun a150 hA150 _ => ?_)
        obtain ⟨hS152, ht153⟩ := ht144
        refine sq (opk_val hA150 rfl (r_addI (hA150.get rfl) (hA150.get rfl) hS152) fun a151 hA151 _ => ?_)
        obtain ⟨hS155, ht156⟩ := ht153
        refine sq (opk_val hA151 rfl (r_sliceL (hA151.get rfl) (hA151.get rfl) Try.underlying36 ti_3 hS155) fun a154 hA154 _ => ?_)
        obtain ⟨r_158, hx159, ht160⟩ := ht156
        refine sq (opk_val hA154 rfl (r_extern Try.func74 (by kernel_rfl) (by kernel_rfl) (by kernel_rfl) (by kernel_rfl) (map_arr (ml_cons (hA154.get rfl) (ml_cons (hA154.get rfl) ml_nil))) rfl hx159) fun a157 hA157 _ => ?_)
        refine sq (opk_val hA157 rfl (r_not (hA157.get rfl)) fun a161 hA161 _ => ?_)
        refine sq_end ?_
        have hA162 := hA161.keep [(0, Sl.v (Sl.cut s_1 1 0 ((s_1.n : Int) + (v_3.n : Int)).toNat s_1.c)), (1, .int .i64 i_2), (2, Sl.v v_3), (7, .int .i64 (v_3.n : Int)), (8, .int .i64 (s_1.n : Int)), (68, .bool (!r_158))] ⟨rfl, rfl, rfl, rfl, rfl, rfl, trivial⟩
        refine then_normal ?_
        refine wp_cond_split (hA162.get rfl) (fun hc => ?_) (fun hc => ?_)
        · have ht163 := ht160.1 (b_not_t hc)
          clear hc
          refine wp_seq ?_
          refine draw' (by kernel_rfl) fun w165 hE166 => ?_
          have hC167 : Chg [] w w165 := hE166
          have ht168 := ht163 w165    hC167
          obtain ⟨hS171, ht172⟩ := ht168
          obtain ⟨hS175, ht176⟩ := ht172
          obtain ⟨hS179, ht180⟩ := ht176
          refine par (D := [[], [], [], [1, 2], [0, 1, 2, 3], [], [], [5, 6], [0, 1, 2, 3, 4, 5, 6, 7]]) (S := [0, 1, 2, 3, 4, 5, 6, 7]) (F := []) (V := VL [(0, fun v _ => v = Sl.v (Sl.cut s_1 1 0 ((s_1.n : Int) + (v_3.n : Int)).toNat s_1.c)), (1, fun v _ => v = .int .i64 i_2), (2, fun v _ => v = .int .i64 (v_3.n : Int)), (3, fun v _ => v = .int .i64 (i_2 + (v_3.n : Int))), (4, fun v _ => v = Sl.v (Sl.cut (Sl.cut s_1 1 0 ((s_1.n : Int) + (v_3.n : Int)).toNat s_1.c) 1 (i_2 + (v_3.n : Int)).toNat (Sl.cut s_1 1 0 ((s_1.n : Int) + (v_3.n : Int)).toNat s_1.c).n (Sl.cut s_1 1 0 ((s_1.n : Int) + (v_3.n : Int)).toNat s_1.c).c)), (5, fun v _ => v = Sl.v (Sl.cut s_1 1 0 ((s_1.n : Int) + (v_3.n : Int)).toNat s_1.c)), (6, fun v _ => v = .int .i64 i_2), (7, fun v _ => v = Sl.v (Sl.cut (Sl.cut s_1 1 0 ((s_1.n : Int) + (v_3.n : Int)).toNat s_1.c) 1 i_2.toNat (Sl.cut s_1 1 0 ((s_1.n : Int) + (v_3.n : Int)).toNat s_1.c).n (Sl.cut s_1 1 0 ((s_1.n : Int) + (v_3.n : Int)).toNat s_1.c).c))]) hA162 (by kernel_rfl) ⟨fun _ _ _ _ h => by first | exact h | (change _ = _ at h; change _ = _; exact h), fun _ _ _ _ h => by first | exact h | (change _ = _ at h; change _ = _; exact h), fun _ _ _ _ h => by first | exact h | (change _ = _ at h; change _ = _; exact h), fun _ _ _ _ h => by first | exact h | (change _ = _ at h; change _ = _; exact h), fun _ _ _ _ h => by first | exact h | (change _ = _ at h; change _ = _; exact h), fun _ _ _ _ h => by first | exact h | (change _ = _ at h; change _ = _; exact h), fun _ _ _ _ h => by first | exact h | (change _ = _ at h; change _ = _; exact h), fun _ _ _ _ h => by first | exact h | (change _ = _ at h; change _ = _; exact h), trivial⟩ ⟨?_, ?_, ?_, ?_, ?_, ?_, ?_, ?_, trivial⟩ ?_
          · intro a w hT
            have hAp := hT.ag hA162 [(0, Sl.v (Sl.cut s_1 1 0 ((s_1.n : Int) + (v_3.n : Int)).toNat s_1.c))] ⟨rfl, trivial⟩ (by kernel_rfl)
            exact opk_val hAp rfl (r_move (hAp.get rfl)) fun _ _ e => ⟨_, e, Chg.refl _ _, fun _ => Eq.refl _⟩
          · intro a w hT
            have hAp := hT.ag hA162 [(1, .int .i64 i_2)] ⟨rfl, trivial⟩ (by kernel_rfl)
            exact opk_val hAp rfl (r_move (hAp.get rfl)) fun _ _ e => ⟨_, e, Chg.refl _ _, fun _ => Eq.refl _⟩
          · intro a w hT
            have hAp := hT.ag hA162 [(7, .int .i64 (v_3.n : Int))] ⟨rfl, trivial⟩ (by kernel_rfl)
            exact opk_val hAp rfl (r_move (hAp.get rfl)) fun _ _ e => ⟨_, e, Chg.refl _ _, fun _ => Eq.refl _⟩
          · intro a w hT
            have hAp := hT.ag hA162 [] trivial (by kernel_rfl)
            have e169 : a.tmps.getD 70 undef = .int .i64 i_2 := hT.vals 1 rfl 70 rfl
            have hAp := hAp.add e169
            have e170 : a.tmps.getD 71 undef = .int .i64 (v_3.n : Int) := hT.vals 2 rfl 71 rfl
            have hAp := hAp.add e170
            exact opk_val hAp rfl (r_addI (hAp.get rfl) (hAp.get rfl) hS171) fun _ _ e => ⟨_, e, Chg.refl _ _, fun _ => Eq.refl _⟩
          · intro a w hT
            have hAp := hT.ag hA162 [] trivial (by kernel_rfl)
            have e173 : a.tmps.getD 69 undef = Sl.v (Sl.cut s_1 1 0 ((s_1.n : Int) + (v_3.n : Int)).toNat s_1.c) := hT.vals 0 rfl 69 rfl
            have hAp := hAp.add e173
            have e174 : a.tmps.getD 72 undef = .int .i64 (i_2 + (v_3.n : Int)) := hT.vals 3 rfl 72 rfl
            have hAp := hAp.add e174
            exact opk_val hAp rfl (r_sliceL (hAp.get rfl) (hAp.get rfl) Try.underlying36 ti_3 hS175) fun _ _ e => ⟨_, e, Chg.refl _ _, fun _ => Eq.refl _⟩
          · intro a w hT
            have hAp := hT.ag hA162 [(0, Sl.v (Sl.cut s_1 1 0 ((s_1.n : Int) + (v_3.n : Int)).toNat s_1.c))] ⟨rfl, trivial⟩ (by kernel_rfl)
            exact opk_val hAp rfl (r_move (hAp.get rfl)) fun _ _ e => ⟨_, e, Chg.refl _ _, fun _ => Eq.refl _⟩
          · intro a w hT
            have hAp := hT.ag hA162 [(1, .int .i64 i_2)] ⟨rfl, trivial⟩ (by kernel_rfl)
            exact opk_val hAp rfl (r_move (hAp.get rfl)) fun _ _ e => ⟨_, e, Chg.refl _ _, fun _ => Eq.refl _⟩
          · intro a w hT
            have hAp := hT.ag hA162 [] trivial (by kernel_rfl)
            have e177 : a.tmps.getD 74 undef = Sl.v (Sl.cut s_1 1 0 ((s_1.n : Int) + (v_3.n : Int)).toNat s_1.c) := hT.vals 5 rfl 74 rfl
            have hAp := hAp.add e177
            have e178 : a.tmps.getD 75 undef = .int .i64 i_2 := hT.vals 6 rfl 75 rfl
            have hAp := hAp.add e178
            exact opk_val hAp rfl (r_sliceL (hAp.get rfl) (hAp.get rfl) Try.underlying36 ti_3 hS179) fun _ _ e => ⟨_, e, Chg.refl _ _, fun _ => Eq.refl _⟩
          · intro a181 w182 hE183 hag184 hv185
            have hA181 := hag184 [(0, Sl.v (Sl.cut s_1 1 0 ((s_1.n : Int) + (v_3.n : Int)).toNat s_1.c)), (1, .int .i64 i_2), (2, Sl.v v_3)] ⟨rfl, rfl, rfl, trivial⟩ (by kernel_rfl)
            have e187 : a181.tmps.getD 73 undef = Sl.v (Sl.cut (Sl.cut s_1 1 0 ((s_1.n : Int) + (v_3.n : Int)).toNat s_1.c) 1 (i_2 + (v_3.n : Int)).toNat (Sl.cut s_1 1 0 ((s_1.n : Int) + (v_3.n : Int)).toNat s_1.c).n (Sl.cut s_1 1 0 ((s_1.n : Int) + (v_3.n : Int)).toNat s_1.c).c) := hv185 4 rfl 73 rfl
            have hA188 := hA181.add e187
            have e189 : a181.tmps.getD 76 undef = Sl.v (Sl.cut (Sl.cut s_1 1 0 ((s_1.n : Int) + (v_3.n : Int)).toNat s_1.c) 1 i_2.toNat (Sl.cut s_1 1 0 ((s_1.n : Int) + (v_3.n : Int)).toNat s_1.c).n (Sl.cut s_1 1 0 ((s_1.n : Int) + (v_3.n : Int)).toNat s_1.c).c) := hv185 7 rfl 76 rfl
            have hA190 := hA188.add e189
            have hC191 : Chg [] w165 w182 := hE183
            have ht192 := ht180 w182    hC191
            refine one (D := [[], [], [], [1, 2], [0, 1, 2, 3], [], [], [5, 6], [0, 1, 2, 3, 4, 5, 6, 7]]) (i := 8) rfl (by kernel_rfl) (opk_run hA190 rfl (fun _ _ hr => r_copy (hA190.get rfl) (hA190.get rfl) hr) ht192 fun a193 v199 w194 hA193 _ hn196 hz197 hK198 => ?_)
            obtain ⟨r_200, rfl, ht195⟩ := hK198
            refine PR_end (by kernel_rfl) ?_
            have hA201 := hA193.keep [(0, Sl.v (Sl.cut s_1 1 0 ((s_1.n : Int) + (v_3.n : Int)).toNat s_1.c)), (1, .int .i64 i_2), (2, Sl.v v_3)] ⟨rfl, rfl, rfl, trivial⟩
            refine then_normal ?_
            refine wp_seq ?_
            refine wp_region_lit ?_
            refine sq (opk_val hA201 rfl (r_move (hA201.get rfl)) fun a202 hA202 _ => ?_)
            refine sq (opk_val hA202 rfl (r_move (hA202.get rfl)) fun a203 hA203 _ => ?_)
            obtain ⟨hS205, ht206⟩ := ht195
            refine sq (opk_val hA203 rfl (r_sliceL (hA203.get rfl) (hA203.get rfl) Try.underlying36 ti_3 hS205) fun a204 hA204 _ => ?_)
            refine sq (opk_val hA204 rfl (r_move (hA204.get rfl)) fun a207 hA207 _ => ?_)
            refine sq (opk_run hA207 rfl (fun _ _ hr => r_copy (hA207.get rfl) (hA207.get rfl) hr) ht206 fun a208 v214 w209 hA208 _ hn211 hz212 hK213 => ?_)
            obtain ⟨r_215, rfl, ht210⟩ := hK213
            refine sq_end ?_
            have hA216 := hA208.keep [(0, Sl.v (Sl.cut s_1 1 0 ((s_1.n : Int) + (v_3.n : Int)).toNat s_1.c))] ⟨rfl, trivial⟩
            refine then_normal ?_
            refine wp_seq ?_
            refine wp_region_lit ?_
            refine sq (opk_val hA216 rfl (r_move (hA216.get rfl)) fun a217 hA217 _ => ?_)
            refine sq (opk_val hA217 rfl (r_assign (hA217.get rfl)) fun a218 hA218 _ => ?_)
            refine sq_end ?_
            have hA219 := hA218.keep [(6, Sl.v (Sl.cut s_1 1 0 ((s_1.n : Int) + (v_3.n : Int)).toNat s_1.c))] ⟨rfl, trivial⟩
            refine then_normal ?_
            refine wp_ret ?_
            refine then_ret ?_
            exact res_all (vs := [Sl.v (Sl.cut s_1 1 0 ((s_1.n : Int) + (v_3.n : Int)).toNat s_1.c)]) rfl hA219 ⟨res_of_tmp hA219 rfl, trivial⟩ ht210
        · have ht164 := ht160.2 (b_not_f hc)
          clear hc
          refine wp_skip ?_
          refine then_normal ?_
          refine wp_seq ?_
          refine wp_region_lit ?_
          refine sq (opk_val hA162 rfl (r_move (hA162.get rfl)) fun a220 hA220 _ => ?_)
          refine sq (opk_val hA220 rfl (r_move (hA220.get rfl)) fun a221 hA221 _ => ?_)
          obtain ⟨hS223, ht224⟩ := ht164
          refine sq (opk_val hA221 rfl (r_sliceL (hA221.get rfl) (hA221.get rfl) Try.underlying36 ti_3 hS223) fun a222 hA222 _ => ?_)
          refine sq (opk_val hA222 rfl (r_move (hA222.get rfl)) fun a225 hA225 _ => ?_)
          refine sq (opk_run hA225 rfl (fun _ _ hr => r_copy (hA225.get rfl) (hA225.get rfl) hr) ht224 fun a226 v232 w227 hA226 _ hn229 hz230 hK231 => ?_)
          obtain ⟨r_233, rfl, ht228⟩ := hK231
          refine sq_end ?_
          have hA234 := hA226.keep [(0, Sl.v (Sl.cut s_1 1 0 ((s_1.n : Int) + (v_3.n : Int)).toNat s_1.c)), (1, .int .i64 i_2), (7, .int .i64 (v_3.n : Int))] ⟨rfl, rfl, rfl, trivial⟩
          refine then_normal ?_
          refine wp_seq ?_
          refine wp_region_lit ?_
          refine sq (opk_val hA234 rfl (r_move (hA234.get rfl)) fun a235 hA235 _ => ?_)
          refine sq (opk_val hA235 rfl (r_move (hA235.get rfl)) fun a236 hA236 _ => ?_)
          obtain ⟨hS238, ht239⟩ := ht228
          refine sq (opk_val hA236 rfl (r_sliceL (hA236.get rfl) (hA236.get rfl) Try.underlying36 ti_3 hS238) fun a237 hA237 _ => ?_)
          refine sq (opk_val hA237 rfl (r_move (hA237.get rfl)) fun a240 hA240 _ => ?_)
          refine sq (opk_call hA240 rfl (r_call (args := #[Sl.v (Sl.cut (Sl.cut s_1 1 0 ((s_1.n : Int) + (v_3.n : Int)).toNat s_1.c) 1 i_2.toNat (Sl.cut s_1 1 0 ((s_1.n : Int) + (v_3.n : Int)).toNat s_1.c).n (Sl.cut s_1 1 0 ((s_1.n : Int) + (v_3.n : Int)).toNat s_1.c).c), .int .i64 (v_3.n : Int)]) Try.func75 (by decide) rfl (map_arr (ml_cons (hA240.get rfl) (ml_cons (hA240.get rfl) ml_nil))) rfl) ht239 fun a241 v247 w242 hA241 _ hn244 hz245 hK246 => ?_)
          obtain ⟨rfl, ht243⟩ := hK246
          refine sq_end ?_
          have hA248 := hA241.keep [(0, Sl.v (Sl.cut s_1 1 0 ((s_1.n : Int) + (v_3.n : Int)).toNat s_1.c))] ⟨rfl, trivial⟩
          refine then_normal ?_
          refine wp_seq ?_
          refine wp_region_lit ?_
          refine sq (opk_val hA248 rfl (r_move (hA248.get rfl)) fun a249 hA249 _ => ?_)
          refine sq (opk_val hA249 rfl (r_assign (hA249.get rfl)) fun a250 hA250 _ => ?_)
          refine sq_end ?_
          have hA251 := hA250.keep [(6, Sl.v (Sl.cut s_1 1 0 ((s_1.n : Int) + (v_3.n : Int)).toNat s_1.c))] ⟨rfl, trivial⟩
          refine then_normal ?_
          refine wp_ret ?_
          exact res_all (vs := [Sl.v (Sl.cut s_1 1 0 ((s_1.n : Int) + (v_3.n : Int)).toNat s_1.c)]) rfl hA251 ⟨res_of_tmp hA251 rfl, trivial⟩ ht243

/-- The condition of slices.Insert[[]topiary/api.Attrtopiary/api.Attr]. -/
def slices_Insert__api_Attr_api_Attr_.vc (s_1 : Sl) (i_2 : Int) (v_3 : Sl) (R : Value → World → Prop) (w : World) : Prop :=
((0 : Int) ≤ i_2 ∧ i_2 ≤ (s_1.n : Int)) ∧
(((v_3.n : Int) = 0) →
R (Sl.v s_1) w) ∧
((¬ ((v_3.n : Int) = 0)) →
((i_2 = (s_1.n : Int)) →
RunK Try.prog (Builtin.append_ #[26, 26] 26 #[Sl.v s_1, Sl.v v_3]) w [] (fun v w37 => ∃ (r_43 : Sl), v = Sl.v r_43 ∧
R (Sl.v r_43) w37)) ∧
((¬ (i_2 = (s_1.n : Int))) →
(I64 ((s_1.n : Int) + (v_3.n : Int))) ∧
(((s_1.c : Int) < ((s_1.n : Int) + (v_3.n : Int))) →
((0 : Int) ≤ i_2 ∧ i_2 ≤ (s_1.c : Int)) ∧
(I64 ((s_1.n : Int) + (v_3.n : Int))) ∧
(I64 (((s_1.n : Int) + (v_3.n : Int)) - i_2)) ∧
RunK Try.prog (Builtin.append_ #[26, 3] 26 #[Sl.v (Sl.cut s_1 2 0 i_2.toNat s_1.c), .int .i64 (((s_1.n : Int) + (v_3.n : Int)) - i_2)]) w [] (fun v w72 => ∃ (r_78 : Sl), v = Sl.v r_78 ∧
((0 : Int) ≤ i_2 ∧ i_2 ≤ (r_78.n : Int)) ∧
RunK Try.prog (Builtin.copy_ #[26, 26] 3 #[Sl.v (Sl.cut r_78 2 i_2.toNat r_78.n r_78.c), Sl.v v_3]) w72 [] (fun v w88 => ∃ (r_94 : Int), v = .int .i64 r_94 ∧
∀ (w96 : World), Chg [] w88 w96 →
(I64 (i_2 + (v_3.n : Int))) ∧
((0 : Int) ≤ i_2 + (v_3.n : Int) ∧ i_2 + (v_3.n : Int) ≤ (r_78.n : Int)) ∧
((0 : Int) ≤ i_2 ∧ i_2 ≤ (s_1.n : Int)) ∧
∀ (w113 : World), Chg [] w96 w113 →
RunK Try.prog (Builtin.copy_ #[26, 26] 3 #[Sl.v (Sl.cut r_78 2 (i_2 + (v_3.n : Int)).toNat r_78.n r_78.c), Sl.v (Sl.cut s_1 2 i_2.toNat s_1.n s_1.c)]) w113 [] (fun v w125 => ∃ (r_131 : Int), v = .int .i64 r_131 ∧
R (Sl.v r_78) w125)))) ∧
((¬ ((s_1.c : Int) < ((s_1.n : Int) + (v_3.n : Int)))) →
(I64 ((s_1.n : Int) + (v_3.n : Int))) ∧
((0 : Int) ≤ (s_1.n : Int) + (v_3.n : Int) ∧ (s_1.n : Int) + (v_3.n : Int) ≤ (s_1.c : Int)) ∧
(I64 (i_2 + (v_3.n : Int))) ∧
((0 : Int) ≤ i_2 + (v_3.n : Int) ∧ i_2 + (v_3.n : Int) ≤ ((Sl.cut s_1 2 0 ((s_1.n : Int) + (v_3.n : Int)).toNat s_1.c).n : Int)) ∧
∃ r_158 : Bool, ((Extern.SlicesOverlaps.overlaps #[26, 26] #[4] #[Sl.v v_3, Sl.v (Sl.cut (Sl.cut s_1 2 0 ((s_1.n : Int) + (v_3.n : Int)).toNat s_1.c) 2 (i_2 + (v_3.n : Int)).toNat (Sl.cut s_1 2 0 ((s_1.n : Int) + (v_3.n : Int)).toNat s_1.c).n (Sl.cut s_1 2 0 ((s_1.n : Int) + (v_3.n : Int)).toNat s_1.c).c)]).run Try.prog w = .ok (.bool r_158) w) ∧
((r_158 = false) →
∀ (w165 : World), Chg [] w w165 →
(I64 (i_2 + (v_3.n : Int))) ∧
((0 : Int) ≤ i_2 + (v_3.n : Int) ∧ i_2 + (v_3.n : Int) ≤ ((Sl.cut s_1 2 0 ((s_1.n : Int) + (v_3.n : Int)).toNat s_1.c).n : Int)) ∧
((0 : Int) ≤ i_2 ∧ i_2 ≤ ((Sl.cut s_1 2 0 ((s_1.n : Int) + (v_3.n : Int)).toNat s_1.c).n : Int)) ∧
∀ (w182 : World), Chg [] w165 w182 →
RunK Try.prog (Builtin.copy_ #[26, 26] 3 #[Sl.v (Sl.cut (Sl.cut s_1 2 0 ((s_1.n : Int) + (v_3.n : Int)).toNat s_1.c) 2 (i_2 + (v_3.n : Int)).toNat (Sl.cut s_1 2 0 ((s_1.n : Int) + (v_3.n : Int)).toNat s_1.c).n (Sl.cut s_1 2 0 ((s_1.n : Int) + (v_3.n : Int)).toNat s_1.c).c), Sl.v (Sl.cut (Sl.cut s_1 2 0 ((s_1.n : Int) + (v_3.n : Int)).toNat s_1.c) 2 i_2.toNat (Sl.cut s_1 2 0 ((s_1.n : Int) + (v_3.n : Int)).toNat s_1.c).n (Sl.cut s_1 2 0 ((s_1.n : Int) + (v_3.n : Int)).toNat s_1.c).c)]) w182 [] (fun v w194 => ∃ (r_200 : Int), v = .int .i64 r_200 ∧
((0 : Int) ≤ i_2 ∧ i_2 ≤ ((Sl.cut s_1 2 0 ((s_1.n : Int) + (v_3.n : Int)).toNat s_1.c).n : Int)) ∧
RunK Try.prog (Builtin.copy_ #[26, 26] 3 #[Sl.v (Sl.cut (Sl.cut s_1 2 0 ((s_1.n : Int) + (v_3.n : Int)).toNat s_1.c) 2 i_2.toNat (Sl.cut s_1 2 0 ((s_1.n : Int) + (v_3.n : Int)).toNat s_1.c).n (Sl.cut s_1 2 0 ((s_1.n : Int) + (v_3.n : Int)).toNat s_1.c).c), Sl.v v_3]) w194 [] (fun v w209 => ∃ (r_215 : Int), v = .int .i64 r_215 ∧
R (Sl.v (Sl.cut s_1 2 0 ((s_1.n : Int) + (v_3.n : Int)).toNat s_1.c)) w209))) ∧
((r_158 = true) →
((0 : Int) ≤ (s_1.n : Int) ∧ (s_1.n : Int) ≤ ((Sl.cut s_1 2 0 ((s_1.n : Int) + (v_3.n : Int)).toNat s_1.c).n : Int)) ∧
RunK Try.prog (Builtin.copy_ #[26, 26] 3 #[Sl.v (Sl.cut (Sl.cut s_1 2 0 ((s_1.n : Int) + (v_3.n : Int)).toNat s_1.c) 2 (s_1.n : Int).toNat (Sl.cut s_1 2 0 ((s_1.n : Int) + (v_3.n : Int)).toNat s_1.c).n (Sl.cut s_1 2 0 ((s_1.n : Int) + (v_3.n : Int)).toNat s_1.c).c), Sl.v v_3]) w [] (fun v w227 => ∃ (r_233 : Int), v = .int .i64 r_233 ∧
((0 : Int) ≤ i_2 ∧ i_2 ≤ ((Sl.cut s_1 2 0 ((s_1.n : Int) + (v_3.n : Int)).toNat s_1.c).n : Int)) ∧
CallK Try.prog 80 #[Sl.v (Sl.cut (Sl.cut s_1 2 0 ((s_1.n : Int) + (v_3.n : Int)).toNat s_1.c) 2 i_2.toNat (Sl.cut s_1 2 0 ((s_1.n : Int) + (v_3.n : Int)).toNat s_1.c).n (Sl.cut s_1 2 0 ((s_1.n : Int) + (v_3.n : Int)).toNat s_1.c).c), .int .i64 (v_3.n : Int)] w227 [] (fun v w242 => v = .tuple #[] ∧
R (Sl.v (Sl.cut s_1 2 0 ((s_1.n : Int) + (v_3.n : Int)).toNat s_1.c)) w242))))))
set_option maxHeartbeats 1000000 in
set_option maxRecDepth 10000 in
theorem slices_Insert__api_Attr_api_Attr_.ok (s_1 : Sl) (i_2 : Int) (v_3 : Sl) {R : Value → World → Prop} {w : World} (ht0 : slices_Insert__api_Attr_api_Attr_.vc s_1 i_2 v_3 R w) : Calls Try.prog 52 #[Sl.v s_1, .int .i64 i_2, Sl.v v_3] w (Ret R) := by
  refine enter [Sl.v s_1, .int .i64 i_2, Sl.v v_3] Try.func52 rfl Try.ntmps52 rfl ?_
  intro a0 hA0
  unfold slices_Insert__api_Attr_api_Attr_.vc at ht0
  refine wp_seq ?_
  refine wp_region_lit ?_
  refine sq (opk_val hA0 rfl (r_assign rfl) fun a4 hA4 _ => ?_)
  refine sq_end ?_
  have hA5 := hA4.keep [(0, Sl.v s_1), (1, .int .i64 i_2), (2, Sl.v v_3)] ⟨rfl, rfl, rfl, trivial⟩
  refine then_normal ?_
  refine wp_seq ?_
  refine wp_region_lit ?_
  refine sq (opk_val hA5 rfl (r_move (hA5.get rfl)) fun a6 hA6 _ => ?_)
  refine sq (opk_val hA6 rfl (r_move (hA6.get rfl)) fun a7 hA7 _ => ?_)
  obtain ⟨hS9, ht10⟩ := ht0
  refine sq (opk_val hA7 rfl (r_sliceL (hA7.get rfl) (hA7.get rfl) Try.underlying26 ti_65 hS9) fun a8 hA8 _ => ?_)
  refine sq_end ?_
  have hA11 := hA8.keep [(0, Sl.v s_1), (1, .int .i64 i_2), (2, Sl.v v_3)] ⟨rfl, rfl, rfl, trivial⟩
  refine then_normal ?_
  refine wp_seq ?_
  refine wp_region_lit ?_
  refine sq (opk_val hA11 rfl (r_move (hA11.get rfl)) fun a12 hA12 _ => ?_)
  refine sq (opk_val hA12 rfl (r_len (hA12.get rfl) Try.underlying26) fun a13 hA13 _ => ?_)
  refine sq (opk_val hA13 rfl (r_assign (hA13.get rfl)) fun a14 hA14 _ => ?_)
  refine sq_end ?_
  have hA15 := hA14.keep [(0, Sl.v s_1), (1, .int .i64 i_2), (2, Sl.v v_3), (7, .int .i64 (v_3.n : Int))] ⟨rfl, rfl, rfl, rfl, trivial⟩
  refine then_normal ?_
  refine wp_seq ?_
  refine wp_seq ?_
  refine wp_region_lit ?_
  refine sq (opk_val hA15 rfl (r_move (hA15.get rfl)) fun a16 hA16 _ => ?_)
  refine sq (opk_val hA16 rfl (r_eql (hA16.get rfl) rfl) fun a17 hA17 _ => ?_)
  refine sq_end ?_
  have hA18 := hA17.keep [(0, Sl.v s_1), (1, .int .i64 i_2), (2, Sl.v v_3), (7, .int .i64 (v_3.n : Int)), (16, .bool (decide ((v_3.n : Int) = 0)))] ⟨rfl, rfl, rfl, rfl, rfl, trivial⟩
  refine then_normal ?_
  refine wp_cond_split (hA18.get rfl) (fun hc => ?_) (fun hc => ?_)
  · have ht19 := ht10.1 (of_decide_eq_true hc)
    clear hc
    refine wp_seq ?_
    refine wp_region_lit ?_
    refine sq (opk_val hA18 rfl (r_move (hA18.get rfl)) fun a21 hA21 _ => ?_)
    refine sq (opk_val hA21 rfl (r_assign (hA21.get rfl)) fun a22 hA22 _ => ?_)
    refine sq_end ?_
    have hA23 := hA22.keep [(6, Sl.v s_1)] ⟨rfl, trivial⟩
    refine then_normal ?_
    refine wp_ret ?_
    refine then_ret ?_
    exact res_all (vs := [Sl.v s_1]) rfl hA23 ⟨res_of_tmp hA23 rfl, trivial⟩ ht19
  · have ht20 := ht10.2 (of_decide_eq_false hc)
    clear hc
    refine wp_skip ?_
    refine then_normal ?_
    refine wp_seq ?_
    refine wp_region_lit ?_
    refine sq (opk_val hA18 rfl (r_move (hA18.get rfl)) fun a24 hA24 _ => ?_)
    refine sq (opk_val hA24 rfl (r_len (hA24.get rfl) Try.underlying26) fun a25 hA25 _ => ?_)
    refine sq (opk_val hA25 rfl (r_assign (hA25.get rfl)) fun a26 hA26 _ => ?_)
    refine sq_end ?_
    have hA27 := hA26.keep [(0, Sl.v s_1), (1, .int .i64 i_2), (2, Sl.v v_3), (7, .int .i64 (v_3.n : Int)), (8, .int .i64 (s_1.n : Int))] ⟨rfl, rfl, rfl, rfl, rfl, trivial⟩
    refine then_normal ?_
    refine wp_seq ?_
    refine wp_seq ?_
    refine wp_region_lit ?_
    refine sq (opk_val hA27 rfl (r_move (hA27.get rfl)) fun a28 hA28 _ => ?_)
    refine sq (opk_val hA28 rfl (r_move (hA28.get rfl)) fun a29 hA29 _ => ?_)
    refine sq (opk_val hA29 rfl (r_eql (hA29.get rfl) (hA29.get rfl)) fun a30 hA30 _ => ?_)
    refine sq_end ?_
    have hA31 := hA30.keep [(0, Sl.v s_1), (1, .int .i64 i_2), (2, Sl.v v_3), (7, .int .i64 (v_3.n : Int)), (8, .int .i64 (s_1.n : Int)), (22, .bool (decide (i_2 = (s_1.n : Int))))] ⟨rfl, rfl, rfl, rfl, rfl, rfl, trivial⟩
    refine then_normal ?_
    refine wp_cond_split (hA31.get rfl) (fun hc => ?_) (fun hc => ?_)
    · have ht32 := ht20.1 (of_decide_eq_true hc)
      clear hc
      refine wp_seq ?_
      refine wp_region_lit ?_
      refine sq (opk_val hA31 rfl (r_move (hA31.get rfl)) fun a34 hA34 _ => ?_)
      refine sq (opk_val hA34 rfl (r_move (hA34.get rfl)) fun a35 hA35 _ => ?_)
      refine sq (opk_run hA35 rfl (fun _ _ hr => r_append (hA35.get rfl) (hA35.get rfl) hr) ht32 fun a36 v42 w37 hA36 _ hn39 hz40 hK41 => ?_)
      obtain ⟨r_43, rfl, ht38⟩ := hK41
      refine sq (opk_val hA36 rfl (r_assign (hA36.get rfl)) fun a44 hA44 _ => ?_)
      refine sq_end ?_
      have hA45 := hA44.keep [(6, Sl.v r_43)] ⟨rfl, trivial⟩
      refine then_normal ?_
      refine wp_ret ?_
      refine then_ret ?_
      exact res_all (vs := [Sl.v r_43]) rfl hA45 ⟨res_of_tmp hA45 rfl, trivial⟩ ht38
    · have ht33 := ht20.2 (of_decide_eq_false hc)
      clear hc
      refine wp_skip ?_
      refine then_normal ?_
      refine wp_seq ?_
      refine wp_seq ?_
      refine wp_region_lit ?_
      refine sq (opk_val hA31 rfl (r_move (hA31.get rfl)) fun a46 hA46 _ => ?_)
      refine sq (opk_val hA46 rfl (r_move (hA46.get rfl)) fun a47 hA47 _ => ?_)
      obtain ⟨hS49, ht50⟩ := ht33
      refine sq (opk_val hA47 rfl (r_addI (hA47.get rfl) (hA47.get rfl) hS49) fun a48 hA48 _ => ?_)
      refine sq (opk_val hA48 rfl (r_move (hA48.get rfl)) fun a51 hA51 _ => ?_)
      refine sq (opk_val hA51 rfl (r_cap (hA51.get rfl) Try.underlying26) fun a52 hA52 _ => ?_)
      refine sq (opk_val hA52 rfl (r_gtr (hA52.get rfl) (hA52.get rfl)) fun a53 hA53 _ => ?_)
      refine sq_end ?_
      have hA54 := hA53.keep [(0, Sl.v s_1), (1, .int .i64 i_2), (2, Sl.v v_3), (7, .int .i64 (v_3.n : Int)), (8, .int .i64 (s_1.n : Int)), (31, .bool (decide ((s_1.c : Int) < ((s_1.n : Int) + (v_3.n : Int)))))] ⟨rfl, rfl, rfl, rfl, rfl, rfl, trivial⟩
      refine then_normal ?_
      refine wp_cond_split (hA54.get rfl) (fun hc => ?_) (fun hc => ?_)
      · have ht55 := ht50.1 (of_decide_eq_true hc)
        clear hc
        refine wp_seq ?_
        refine wp_region_lit ?_
        refine sq (opk_val hA54 rfl (r_move (hA54.get rfl)) fun a57 hA57 _ => ?_)
        refine sq (opk_val hA57 rfl (r_move (hA57.get rfl)) fun a58 hA58 _ => ?_)
        obtain ⟨hS60, ht61⟩ := ht55
        refine sq (opk_val hA58 rfl (r_sliceH (hA58.get rfl) (hA58.get rfl) Try.underlying26 ti_65 hS60) fun a59 hA59 _ => ?_)
        refine sq (opk_val hA59 rfl (r_move (hA59.get rfl)) fun a62 hA62 _ => ?_)
        refine sq (opk_val hA62 rfl (r_move (hA62.get rfl)) fun a63 hA63 _ => ?_)
        obtain ⟨hS65, ht66⟩ := ht61
        refine sq (opk_val hA63 rfl (r_addI (hA63.get rfl) (hA63.get rfl) hS65) fun a64 hA64 _ => ?_)
        refine sq (opk_val hA64 rfl (r_move (hA64.get rfl)) fun a67 hA67 _ => ?_)
        obtain ⟨hS69, ht70⟩ := ht66
        refine sq (opk_val hA67 rfl (r_subI (hA67.get rfl) (hA67.get rfl) hS69) fun a68 hA68 _ => ?_)
        refine sq (opk_run hA68 rfl (fun _ _ hr => r_append (hA68.get rfl) (hA68.get rfl) hr) ht70 fun a71 v77 w72 hA71 _ hn74 hz75 hK76 => ?_)
        obtain ⟨r_78, rfl, ht73⟩ := hK76
        refine sq (opk_val hA71 rfl (r_assign (hA71.get rfl)) fun a79 hA79 _ => ?_)
        refine sq_end ?_
        have hA80 := hA79.keep [(0, Sl.v s_1), (1, .int .i64 i_2), (2, Sl.v v_3), (7, .int .i64 (v_3.n : Int)), (9, Sl.v r_78)] ⟨rfl, rfl, rfl, rfl, rfl, trivial⟩
        refine then_normal ?_
        refine wp_seq ?_
        refine wp_region_lit ?_
        refine sq (opk_val hA80 rfl (r_move (hA80.get rfl)) fun a81 hA81 _ => ?_)
        refine sq (opk_val hA81 rfl (r_move (hA81.get rfl)) fun a82 hA82 _ => ?_)
        obtain ⟨hS84, ht85⟩ := ht73
        refine sq (opk_val hA82 rfl (r_sliceL (hA82.get rfl) (hA82.get rfl) Try.underlying26 ti_65 hS84) fun a83 hA83 _ => ?_)
        refine sq (opk_val hA83 rfl (r_move (hA83.get rfl)) fun a86 hA86 _ => ?_)
        refine sq (opk_run hA86 rfl (fun _ _ hr => r_copy (hA86.get rfl) (hA86.get rfl) hr) ht85 fun a87 v93 w88 hA87 _ hn90 hz91 hK92 => ?_)
        obtain ⟨r_94, rfl, ht89⟩ := hK92
        refine sq_end ?_
        have hA95 := hA87.keep [(0, Sl.v s_1), (1, .int .i64 i_2), (7, .int .i64 (v_3.n : Int)), (9, Sl.v r_78)] ⟨rfl, rfl, rfl, rfl, trivial⟩
        refine then_normal ?_
        refine wp_seq ?_
        refine draw' (by kernel_rfl) fun w96 hE97 => ?_
        have hC98 : Chg [] w88 w96 := hE97
        have ht99 := ht89 w96    hC98
        obtain ⟨hS102, ht103⟩ := ht99
        obtain ⟨hS106, ht107⟩ := ht103
        obtain ⟨hS110, ht111⟩ := ht107
        refine par (D := [[], [], [], [1, 2], [0, 1, 2, 3], [], [], [5, 6], [0, 1, 2, 3, 4, 5, 6, 7]]) (S := [0, 1, 2, 3, 4, 5, 6, 7]) (F := []) (V := VL [(0, fun v _ => v = Sl.v r_78), (1, fun v _ => v = .int .i64 i_2), (2, fun v _ => v = .int .i64 (v_3.n : Int)), (3, fun v _ => v = .int .i64 (i_2 + (v_3.n : Int))), (4, fun v _ => v = Sl.v (Sl.cut r_78 2 (i_2 + (v_3.n : Int)).toNat r_78.n r_78.c)), (5, fun v _ => v = Sl.v s_1), (6, fun v _ => v = .int .i64 i_2), (7, fun v _ => v = Sl.v (Sl.cut s_1 2 i_2.toNat s_1.n s_1.c))]) hA95 (by kernel_rfl) ⟨fun _ _ _ _ h => by first | exact h | (change _ = _ at h; change _ = _; exact h), fun _ _ _ _ h => by first | exact h | (change _ = _ at h; change _ = _; exact h), fun _ _ _ _ h => by first | exact h | (change _ = _ at h; change _ = _; exact h), fun _ _ _ _ h => by first | exact h | (change _ = _ at h; change _ = _; exact h), fun _ _ _ _ h => by first | exact h | (change _ = _ at h; change _ = _; exact h), fun _ _ _ _ h => by first | exact h | (change _ = _ at h; change _ = _; exact h), fun _ _ _ _ h => by first | exact h | (change _ = _ at h; change _ = _; exact h), fun _ _ _ _ h => by first | exact h | (change _ = _ at h; change _ = _; exact h), trivial⟩ ⟨?_, ?_, ?_, ?_, ?_, ?_, ?_, ?_, trivial⟩ ?_
        · intro a w hT
          have hAp := hT.ag hA95 [(9, Sl.v r_78)] ⟨rfl, trivial⟩ (by kernel_rfl)
          exact opk_val hAp rfl (r_move (hAp.get rfl)) fun _ _ e => ⟨_, e, Chg.refl _ _, fun _ => Eq.refl _⟩
        · intro a w hT
          have hAp := hT.ag hA95 [(1, .int .i64 i_2)] ⟨rfl, trivial⟩ (by kernel_rfl)
          exact opk_val hAp rfl (r_move (hAp.get rfl)) fun _ _ e => ⟨_, e, Chg.refl _ _, fun _ => Eq.refl _⟩
        · intro a w hT
          have hAp := hT.ag hA95 [(7, .int .i64 (v_3.n : Int))] ⟨rfl, trivial⟩ (by kernel_rfl)
          exact opk_val hAp rfl (r_move (hAp.get rfl)) fun _ _ e => ⟨_, e, Chg.refl _ _, fun _ => Eq.refl _⟩
        · intro a w hT
          have hAp := hT.ag hA95 [] trivial (by kernel_rfl)
          have e100 : a.tmps.getD 47 undef = .int .i64 i_2 := hT.vals 1 rfl 47 rfl
          have hAp := hAp.add e100
          have e101 : a.tmps.getD 48 undef = .int .i64 (v_3.n : Int) := hT.vals 2 rfl 48 rfl
          have hAp := hAp.add e101
          exact opk_val hAp rfl (r_addI (hAp.get rfl) (hAp.get rfl) hS102) fun _ _ e => ⟨_, e, Chg.refl _ _, fun _ => Eq.refl _⟩
        · intro a w hT
          have hAp := hT.ag hA95 [] trivial (by kernel_rfl)
          have e104 : a.tmps.getD 46 undef = Sl.v r_78 := hT.vals 0 rfl 46 rfl
          have hAp := hAp.add e104
          have e105 : a.tmps.getD 49 undef = .int .i64 (i_2 + (v_3.n : Int)) := hT.vals 3 rfl 49 rfl
          have hAp := hAp.add e105
          exact opk_val hAp rfl (r_sliceL (hAp.get rfl) (hAp.get rfl) Try.underlying26 ti_65 hS106) fun _ _ e => ⟨_, e, Chg.refl _ _, fun _ => Eq.refl _⟩
        · intro a w hT
          have hAp := hT.ag hA95 [(0, Sl.v s_1)] ⟨rfl, trivial⟩ (by kernel_rfl)
          exact opk_val hAp rfl (r_move (hAp.get rfl)) fun _ _ e => ⟨_, e, Chg.refl _ _, fun _ => Eq.refl _⟩
        · intro a w hT
          have hAp := hT.ag hA95 [(1, .int .i64 i_2)] ⟨rfl, trivial⟩ (by kernel_rfl)
          exact opk_val hAp rfl (r_move (hAp.get rfl)) fun _ _ e => ⟨_, e, Chg.refl _ _, fun _ => Eq.refl _⟩
        · intro a w hT
          have hAp := hT.ag hA95 [] trivial (by kernel_rfl)
          have e108 : a.tmps.getD 51 undef = Sl.v s_1 := hT.vals 5 rfl 51 rfl
          have hAp := hAp.add e108
          have e109 : a.tmps.getD 52 undef = .int .i64 i_2 := hT.vals 6 rfl 52 rfl
          have hAp := hAp.add e109
          exact opk_val hAp rfl (r_sliceL (hAp.get rfl) (hAp.get rfl) Try.underlying26 ti_65 hS110) fun _ _ e => ⟨_, e, Chg.refl _ _, fun _ => Eq.refl _⟩
        · intro a112 w113 hE114 hag115 hv116
          have hA112 := hag115 [(9, Sl.v r_78)] ⟨rfl, trivial⟩ (by kernel_rfl)
          have e118 : a112.tmps.getD 50 undef = Sl.v (Sl.cut r_78 2 (i_2 + (v_3.n : Int)).toNat r_78.n r_78.c) := hv116 4 rfl 50 rfl
          have hA119 := hA112.add e118
          have e120 : a112.tmps.getD 53 undef = Sl.v (Sl.cut s_1 2 i_2.toNat s_1.n s_1.c) := hv116 7 rfl 53 rfl
          have hA121 := hA119.add e120
          have hC122 : Chg [] w96 w113 := hE114
          have ht123 := ht111 w113    hC122
          refine one (D := [[], [], [], [1, 2], [0, 1, 2, 3], [], [], [5, 6], [0, 1, 2, 3, 4, 5, 6, 7]]) (i := 8) rfl (by kernel_rfl) (opk_run hA121 rfl (fun _ _ hr => r_copy (hA121.get rfl) (hA121.get rfl) hr) ht123 fun a124 v130 w125 hA124 _ hn127 hz128 hK129 => ?_)
          obtain ⟨r_131, rfl, ht126⟩ := hK129
          refine PR_end (by kernel_rfl) ?_
          have hA132 := hA124.keep [(9, Sl.v r_78)] ⟨rfl, trivial⟩
          refine then_normal ?_
          refine wp_seq ?_
          refine wp_region_lit ?_
          refine sq (opk_val hA132 rfl (r_move (hA132.get rfl)) fun a133 hA133 _ => ?_)
          refine sq (opk_val hA133 rfl (r_assign (hA133.get rfl)) fun a134 hA134 _ => ?_)
          refine sq_end ?_
          have hA135 := hA134.keep [(6, Sl.v r_78)] ⟨rfl, trivial⟩
          refine then_normal ?_
          refine wp_ret ?_
          refine then_ret ?_
          exact res_all (vs := [Sl.v r_78]) rfl hA135 ⟨res_of_tmp hA135 rfl, trivial⟩ ht126
      · have ht56 := ht50.2 (of_decide_eq_false hc)
        clear hc
        refine wp_skip ?_
        refine then_normal ?_
        refine wp_seq ?_
        refine wp_region_lit ?_
        refine sq (opk_val hA54 rfl (r_move (hA54.get rfl)) fun a136 hA136 _ => ?_)
        refine sq (opk_val hA136 rfl (r_move (hA136.get rfl)) fun a137 hA137 _ => ?_)
        refine sq (opk_val hA137 rfl (r_move (hA137.get rfl)) fun a138 hA138 _ => ?_)
        obtain ⟨hS140, ht141⟩ := ht56
        refine sq (opk_val hA138 rfl (r_addI (hA138.get rfl) (hA138.get rfl) hS140) fun a139 hA139 _ => ?_)
        obtain ⟨hS143, ht144⟩ := ht141
        refine sq (opk_val hA139 rfl (r_sliceH (hA139.get rfl) (hA139.get rfl) Try.underlying26 ti_65 hS143) fun a142 hA142 _ => ?_)
        refine sq (opk_val hA142 rfl (r_assign (hA142.get rfl)) fun a145 hA145 _ => ?_)
        refine sq_end ?_
        have hA146 := hA145.keep [(0, Sl.v (Sl.cut s_1 2 0 ((s_1.n : Int) + (v_3.n : Int)).toNat s_1.c)), (1, .int .i64 i_2), (2, Sl.v v_3), (7, .int .i64 (v_3.n : Int)), (8, .int .i64 (s_1.n : Int))] ⟨rfl, rfl, rfl, rfl, rfl, trivial⟩
        refine then_normal ?_
        refine wp_seq ?_
        refine wp_seq ?_
        refine wp_region_lit ?_
        refine sq (opk_val hA146 rfl (r_move (hA146.get rfl)) fun a147 hA147 _ => ?_)
        refine sq (opk_val hA147 rfl (r_move (hA147.get rfl)) fun a148 hA148 _ => ?_)
        refine sq (opk_val hA148 rfl (r_move (hA148.get rfl)) fun a149 hA149 _ => ?_)
        refine sq (opk_val hA149 rfl (r_move (hA149.get rfl)) fun a150 hA150 _ => ?_)
        obtain ⟨hS152, ht153⟩ := ht144
        refine sq (opk_val hA150 rfl (r_addI (hA150.get rfl) (hA150.get rfl) hS152) fun a151 hA151 _ => ?_)
        obtain ⟨hS155, ht156⟩ := ht153
        refine sq (opk_val hA151 rfl (r_sliceL (hA151.get rfl) (hA151.get rfl) Try.underlying26 ti_65 hS155) fun a154 hA154 _ => ?_)
        obtain ⟨r_158, hx159, ht160⟩ := ht156
        refine sq (opk_val hA154 rfl (r_extern Try.func79 (by kernel_rfl) (by kernel_rfl) (by kernel_rfl) (by kernel_rfl) (map_arr (ml_cons (hA154.get rfl) (ml_cons (hA154.get rfl) ml_nil))) rfl hx159) fun a157 hA157 _ => ?_)
        refine sq (opk_val hA157 rfl (r_not (hA157.get rfl)) fun a161 hA161 _ => ?_)
        refine sq_end ?_
        have hA162 := hA161.keep [(0, Sl.v (Sl.cut s_1 2 0 ((s_1.n : Int) + (v_3.n : Int)).toNat s_1.c)), (1, .int .i64 i_2), (2, Sl.v v_3), (7, .int .i64 (v_3.n : Int)), (8, .int .i64 (s_1.n : Int)), (68, .bool (!r_158))] ⟨rfl, rfl, rfl, rfl, rfl, rfl, trivial⟩
        refine then_normal ?_
        refine wp_cond_split (hA162.get rfl) (fun hc => ?_) (fun hc => ?_)
        · have ht163 := ht160.1 (b_not_t hc)
          clear hc
          refine wp_seq ?_
          refine draw' (by kernel_rfl) fun w165 hE166 => ?_
          have hC167 : Chg [] w w165 := hE166
          have ht168 := ht163 w165    hC167
          obtain ⟨hS171, ht172⟩ := ht168
          obtain ⟨hS175, ht176⟩ := ht172
          obtain ⟨hS179, ht180⟩ := ht176
          refine par (D := [[], [], [], [1, 2], [0, 1, 2, 3], [], [], [5, 6], [0, 1, 2, 3, 4, 5, 6, 7]]) (S := [0, 1, 2, 3, 4, 5, 6, 7]) (F := []) (V := VL [(0, fun v _ => v = Sl.v (Sl.cut s_1 2 0 ((s_1.n : Int) + (v_3.n : Int)).toNat s_1.c)), (1, fun v _ => v = .int .i64 i_2), (2, fun v _ => v = .int .i64 (v_3.n : Int)), (3, fun v _ => v = .int .i64 (i_2 + (v_3.n : Int))), (4, fun v _ => v = Sl.v (Sl.cut (Sl.cut s_1 2 0 ((s_1.n : Int) + (v_3.n : Int)).toNat s_1.c) 2 (i_2 + (v_3.n : Int)).toNat (Sl.cut s_1 2 0 ((s_1.n : Int) + (v_3.n : Int)).toNat s_1.c).n (Sl.cut s_1 2 0 ((s_1.n : Int) + (v_3.n : Int)).toNat s_1.c).c)), (5, fun v _ => v = Sl.v (Sl.cut s_1 2 0 ((s_1.n : Int) + (v_3.n : Int)).toNat s_1.c)), (6, fun v _ => v = .int .i64 i_2), (7, fun v _ => v = Sl.v (Sl.cut (Sl.cut s_1 2 0 ((s_1.n : Int) + (v_3.n : Int)).toNat s_1.c) 2 i_2.toNat (Sl.cut s_1 2 0 ((s_1.n : Int) + (v_3.n : Int)).toNat s_1.c).n (Sl.cut s_1 2 0 ((s_1.n : Int) + (v_3.n : Int)).toNat s_1.c).c))]) hA162 (by kernel_rfl) ⟨fun _ _ _ _ h => by first | exact h | (change _ = _ at h; change _ = _; exact h), fun _ _ _ _ h => by first | exact h | (change _ = _ at h; change _ = _; exact h), fun _ _ _ _ h => by first | exact h | (change _ = _ at h; change _ = _; exact h), fun _ _ _ _ h => by first | exact h | (change _ = _ at h; change _ = _; exact h), fun _ _ _ _ h => by first | exact h | (change _ = _ at h; change _ = _; exact h), fun _ _ _ _ h => by first | exact h | (change _ = _ at h; change _ = _; exact h), fun _ _ _ _ h => by first | exact h | (change _ = _ at h; change _ = _; exact h), fun _ _ _ _ h => by first | exact h | (change _ = _ at h; change _ = _; exact h), trivial⟩ ⟨?_, ?_, ?_, ?_, ?_, ?_, ?_, ?_, trivial⟩ ?_
          · intro a w hT
            have hAp := hT.ag hA162 [(0, Sl.v (Sl.cut s_1 2 0 ((s_1.n : Int) + (v_3.n : Int)).toNat s_1.c))] ⟨rfl, trivial⟩ (by kernel_rfl)
            exact opk_val hAp rfl (r_move (hAp.get rfl)) fun _ _ e => ⟨_, e, Chg.refl _ _, fun _ => Eq.refl _⟩
          · intro a w hT
            have hAp := hT.ag hA162 [(1, .int .i64 i_2)] ⟨rfl, trivial⟩ (by kernel_rfl)
            exact opk_val hAp rfl (r_move (hAp.get rfl)) fun _ _ e => ⟨_, e, Chg.refl _ _, fun _ => Eq.refl _⟩
          · intro a w hT
            have hAp := hT.ag hA162 [(7, .int .i64 (v_3.n : Int))] ⟨rfl, trivial⟩ (by kernel_rfl)
            exact opk_val hAp rfl (r_move (hAp.get rfl)) fun _ _ e => ⟨_, e, Chg.refl _ _, fun _ => Eq.refl _⟩
          · intro a w hT
            have hAp := hT.ag hA162 [] trivial (by kernel_rfl)
            have e169 : a.tmps.getD 70 undef = .int .i64 i_2 := hT.vals 1 rfl 70 rfl
            have hAp := hAp.add e169
            have e170 : a.tmps.getD 71 undef = .int .i64 (v_3.n : Int) := hT.vals 2 rfl 71 rfl
            have hAp := hAp.add e170
            exact opk_val hAp rfl (r_addI (hAp.get rfl) (hAp.get rfl) hS171) fun _ _ e => ⟨_, e, Chg.refl _ _, fun _ => Eq.refl _⟩
          · intro a w hT
            have hAp := hT.ag hA162 [] trivial (by kernel_rfl)
            have e173 : a.tmps.getD 69 undef = Sl.v (Sl.cut s_1 2 0 ((s_1.n : Int) + (v_3.n : Int)).toNat s_1.c) := hT.vals 0 rfl 69 rfl
            have hAp := hAp.add e173
            have e174 : a.tmps.getD 72 undef = .int .i64 (i_2 + (v_3.n : Int)) := hT.vals 3 rfl 72 rfl
            have hAp := hAp.add e174
            exact opk_val hAp rfl (r_sliceL (hAp.get rfl) (hAp.get rfl) Try.underlying26 ti_65 hS175) fun _ _ e => ⟨_, e, Chg.refl _ _, fun _ => Eq.refl _⟩
          · intro a w hT
            have hAp := hT.ag hA162 [(0, Sl.v (Sl.cut s_1 2 0 ((s_1.n : Int) + (v_3.n : Int)).toNat s_1.c))] ⟨rfl, trivial⟩ (by kernel_rfl)
            exact opk_val hAp rfl (r_move (hAp.get rfl)) fun _ _ e => ⟨_, e, Chg.refl _ _, fun _ => Eq.refl _⟩
          · intro a w hT
            have hAp := hT.ag hA162 [(1, .int .i64 i_2)] ⟨rfl, trivial⟩ (by kernel_rfl)
            exact opk_val hAp rfl (r_move (hAp.get rfl)) fun _ _ e => ⟨_, e, Chg.refl _ _, fun _ => Eq.refl _⟩
          · intro a w hT
            have hAp := hT.ag hA162 [] trivial (by kernel_rfl)
            have e177 : a.tmps.getD 74 undef = Sl.v (Sl.cut s_1 2 0 ((s_1.n : Int) + (v_3.n : Int)).toNat s_1.c) := hT.vals 5 rfl 74 rfl
            have hAp := hAp.add e177
            have e178 : a.tmps.getD 75 undef = .int .i64 i_2 := hT.vals 6 rfl 75 rfl
            have hAp := hAp.add e178
            exact opk_val hAp rfl (r_sliceL (hAp.get rfl) (hAp.get rfl) Try.underlying26 ti_65 hS179) fun _ _ e => ⟨_, e, Chg.refl _ _, fun _ => Eq.refl _⟩
          · intro a181 w182 hE183 hag184 hv185
            have hA181 := hag184 [(0, Sl.v (Sl.cut s_1 2 0 ((s_1.n : Int) + (v_3.n : Int)).toNat s_1.c)), (1, .int .i64 i_2), (2, Sl.v v_3)] ⟨rfl, rfl, rfl, trivial⟩ (by kernel_rfl)
            have e187 : a181.tmps.getD 73 undef = Sl.v (Sl.cut (Sl.cut s_1 2 0 ((s_1.n : Int) + (v_3.n : Int)).toNat s_1.c) 2 (i_2 + (v_3.n : Int)).toNat (Sl.cut s_1 2 0 ((s_1.n : Int) + (v_3.n : Int)).toNat s_1.c).n (Sl.cut s_1 2 0 ((s_1.n : Int) + (v_3.n : Int)).toNat s_1.c).c) := hv185 4 rfl 73 rfl
            have hA188 := hA181.add e187
            have e189 : a181.tmps.getD 76 undef = Sl.v (Sl.cut (Sl.cut s_1 2 0 ((s_1.n : Int) + (v_3.n : Int)).toNat s_1.c) 2 i_2.toNat (Sl.cut s_1 2 0 ((s_1.n : Int) + (v_3.n : Int)).toNat s_1.c).n (Sl.cut s_1 2 0 ((s_1.n : Int) + (v_3.n : Int)).toNat s_1.c).c) := hv185 7 rfl 76 rfl
            have hA190 := hA188.add e189
            have hC191 : Chg [] w165 w182 := hE183
            have ht192 := ht180 w182    hC191
            refine one (D := [[], [], [], [1, 2], [0, 1, 2, 3], [], [], [5, 6], [0, 1, 2, 3, 4, 5, 6, 7]]) (i := 8) rfl (by kernel_rfl) (opk_run hA190 rfl (fun _ _ hr => r_copy (hA190.get rfl) (hA190.get rfl) hr) ht192 fun a193 v199 w194 hA193 _ hn196 hz197 hK198 => ?_)
            obtain ⟨r_200, rfl, ht195⟩ := hK198
            refine PR_end (by kernel_rfl) ?_
            have hA201 := hA193.keep [(0, Sl.v (Sl.cut s_1 2 0 ((s_1.n : Int) + (v_3.n : Int)).toNat s_1.c)), (1, .int .i64 i_2), (2, Sl.v v_3)] ⟨rfl, rfl, rfl, trivial⟩
            refine then_normal ?_
            refine wp_seq ?_
            refine wp_region_lit ?_
            refine sq (opk_val hA201 rfl (r_move (hA201.get rfl)) fun a202 hA202 _ => ?_)
            refine sq (opk_val hA202 rfl (r_move (hA202.get rfl)) fun a203 hA203 _ => ?_)
            obtain ⟨hS205, ht206⟩ := ht195
            refine sq (opk_val hA203 rfl (r_sliceL (hA203.get rfl) (hA203.get rfl) Try.underlying26 ti_65 hS205) fun a204 hA204 _ => ?_)
            refine sq (opk_val hA204 rfl (r_move (hA204.get rfl)) fun a207 hA207 _ => ?_)
            refine sq (opk_run hA207 rfl (fun _ _ hr => r_copy (hA207.get rfl) (hA207.get rfl) hr) ht206 fun a208 v214 w209 hA208 _ hn211 hz212 hK213 => ?_)
            obtain ⟨r_215, rfl, ht210⟩ := hK213
            refine sq_end ?_
            have hA216 := hA208.keep [(0, Sl.v (Sl.cut s_1 2 0 ((s_1.n : Int) + (v_3.n : Int)).toNat s_1.c))] ⟨rfl, trivial⟩
            refine then_normal ?_
            refine wp_seq ?_
            refine wp_region_lit ?_
            refine sq (opk_val hA216 rfl (r_move (hA216.get rfl)) fun a217 hA217 _ => ?_)
            refine sq (opk_val hA217 rfl (r_assign (hA217.get rfl)) fun a218 hA218 _ => ?_)
            refine sq_end ?_
            have hA219 := hA218.keep [(6, Sl.v (Sl.cut s_1 2 0 ((s_1.n : Int) + (v_3.n : Int)).toNat s_1.c))] ⟨rfl, trivial⟩
            refine then_normal ?_
            refine wp_ret ?_
            refine then_ret ?_
            exact res_all (vs := [Sl.v (Sl.cut s_1 2 0 ((s_1.n : Int) + (v_3.n : Int)).toNat s_1.c)]) rfl hA219 ⟨res_of_tmp hA219 rfl, trivial⟩ ht210
        · have ht164 := ht160.2 (b_not_f hc)
          clear hc
          refine wp_skip ?_
          refine then_normal ?_
          refine wp_seq ?_
          refine wp_region_lit ?_
          refine sq (opk_val hA162 rfl (r_move (hA162.get rfl)) fun a220 hA220 _ => ?_)
          refine sq (opk_val hA220 rfl (r_move (hA220.get rfl)) fun a221 hA221 _ => ?_)
          obtain ⟨hS223, ht224⟩ := ht164
          refine sq (opk_val hA221 rfl (r_sliceL (hA221.get rfl) (hA221.get rfl) Try.underlying26 ti_65 hS223) fun a222 hA222 _ => ?_)
          refine sq (opk_val hA222 rfl (r_move (hA222.get rfl)) fun a225 hA225 _ => ?_)
          refine sq (opk_run hA225 rfl (fun _ _ hr => r_copy (hA225.get rfl) (hA225.get rfl) hr) ht224 fun a226 v232 w227 hA226 _ hn229 hz230 hK231 => ?_)
          obtain ⟨r_233, rfl, ht228⟩ := hK231
          refine sq_end ?_
          have hA234 := hA226.keep [(0, Sl.v (Sl.cut s_1 2 0 ((s_1.n : Int) + (v_3.n : Int)).toNat s_1.c)), (1, .int .i64 i_2), (7, .int .i64 (v_3.n : Int))] ⟨rfl, rfl, rfl, trivial⟩
          refine then_normal ?_
          refine wp_seq ?_
          refine wp_region_lit ?_
          refine sq (opk_val hA234 rfl (r_move (hA234.get rfl)) fun a235 hA235 _ => ?_)
          refine sq (opk_val hA235 rfl (r_move (hA235.get rfl)) fun a236 hA236 _ => ?_)
          obtain ⟨hS238, ht239⟩ := ht228
          refine sq (opk_val hA236 rfl (r_sliceL (hA236.get rfl) (hA236.get rfl) Try.underlying26 ti_65 hS238) fun a237 hA237 _ => ?_)
          refine sq (opk_val hA237 rfl (r_move (hA237.get rfl)) fun a240 hA240 _ => ?_)
          refine sq (opk_call hA240 rfl (r_call (args := #[Sl.v (Sl.cut (Sl.cut s_1 2 0 ((s_1.n : Int) + (v_3.n : Int)).toNat s_1.c) 2 i_2.toNat (Sl.cut s_1 2 0 ((s_1.n : Int) + (v_3.n : Int)).toNat s_1.c).n (Sl.cut s_1 2 0 ((s_1.n : Int) + (v_3.n : Int)).toNat s_1.c).c), .int .i64 (v_3.n : Int)]) Try.func80 (by decide) rfl (map_arr (ml_cons (hA240.get rfl) (ml_cons (hA240.get rfl) ml_nil))) rfl) ht239 fun a241 v247 w242 hA241 _ hn244 hz245 hK246 => ?_)
          obtain ⟨rfl, ht243⟩ := hK246
          refine sq_end ?_
          have hA248 := hA241.keep [(0, Sl.v (Sl.cut s_1 2 0 ((s_1.n : Int) + (v_3.n : Int)).toNat s_1.c))] ⟨rfl, trivial⟩
          refine then_normal ?_
          refine wp_seq ?_
          refine wp_region_lit ?_
          refine sq (opk_val hA248 rfl (r_move (hA248.get rfl)) fun a249 hA249 _ => ?_)
          refine sq (opk_val hA249 rfl (r_assign (hA249.get rfl)) fun a250 hA250 _ => ?_)
          refine sq_end ?_
          have hA251 := hA250.keep [(6, Sl.v (Sl.cut s_1 2 0 ((s_1.n : Int) + (v_3.n : Int)).toNat s_1.c))] ⟨rfl, trivial⟩
          refine then_normal ?_
          refine wp_ret ?_
          exact res_all (vs := [Sl.v (Sl.cut s_1 2 0 ((s_1.n : Int) + (v_3.n : Int)).toNat s_1.c)]) rfl hA251 ⟨res_of_tmp hA251 rfl, trivial⟩ ht243

/-- The condition of slices.Clone[[]topiary/api.Attrtopiary/api.Attr]. -/
def slices_Clone__api_Attr_api_Attr_.vc (s_1 : Sl) (R : Value → World → Prop) (w : World) : Prop :=
((s_1.a.isNone = true) →
R (Sl.v Sl.nil) w) ∧
((s_1.a.isNone = false) →
∀ (w12 : World) (B_11 : Nat), New w B_11 w12 → Chg [] w w12 →
∀ (_ : Box w12 B_11 65 []),
RunK Try.prog (Builtin.append_ #[26, 26] 26 #[Sl.v (Sl.mk (some ⟨B_11, 0, none⟩) 0 0), Sl.v s_1]) w12 [] (fun v w23 => ∃ (r_29 : Sl), v = Sl.v r_29 ∧
R (Sl.v r_29) w23))
set_option maxHeartbeats 1000000 in
set_option maxRecDepth 10000 in
theorem slices_Clone__api_Attr_api_Attr_.ok (s_1 : Sl) {R : Value → World → Prop} {w : World} (ht0 : slices_Clone__api_Attr_api_Attr_.vc s_1 R w) : Calls Try.prog 64 #[Sl.v s_1] w (Ret R) := by
  refine enter [Sl.v s_1] Try.func64 rfl Try.ntmps64 rfl ?_
  intro a0 hA0
  unfold slices_Clone__api_Attr_api_Attr_.vc at ht0
  refine wp_seq ?_
  refine wp_region_lit ?_
  refine sq (opk_val hA0 rfl (r_assign rfl) fun a2 hA2 _ => ?_)
  refine sq_end ?_
  have hA3 := hA2.keep [(0, Sl.v s_1)] ⟨rfl, trivial⟩
  refine then_normal ?_
  refine wp_seq ?_
  refine wp_seq ?_
  refine wp_region_lit ?_
  refine sq (opk_val hA3 rfl (r_move (hA3.get rfl)) fun a4 hA4 _ => ?_)
  refine sq (opk_val hA4 rfl (r_slnil (hA4.get rfl) rfl Try.underlying26) fun a5 hA5 _ => ?_)
  refine sq_end ?_
  have hA6 := hA5.keep [(0, Sl.v s_1), (4, .bool s_1.a.isNone)] ⟨rfl, rfl, trivial⟩
  refine then_normal ?_
  refine wp_cond_split (hA6.get rfl) (fun hc => ?_) (fun hc => ?_)
  · have ht7 := ht0.1 hc
    clear hc
    refine wp_seq ?_
    refine wp_region_lit ?_
    refine sq (opk_val hA6 rfl (r_assign rfl) fun a9 hA9 _ => ?_)
    refine sq_end ?_
    have hA10 := hA9.keep [(2, Sl.v Sl.nil)] ⟨rfl, trivial⟩
    refine then_normal ?_
    refine wp_ret ?_
    refine then_ret ?_
    exact res_all (vs := [Sl.v Sl.nil]) rfl hA10 ⟨res_of_tmp hA10 rfl, trivial⟩ ht7
  · have ht8 := ht0.2 hc
    clear hc
    refine wp_skip ?_
    refine then_normal ?_
    refine wp_seq ?_
    refine wp_region_lit ?_
    refine sq (opk_new (fun B => .slice (some ⟨B, 0, none⟩) 0 0) hA6 rfl (r_buildSlice0 Try.underlying26 ti_65) fun a13 w12 B_11 hE14 hN15 hB16 hA13 _ => ?_)
    have hN17 : New w B_11 w12 := hN15
    have hC18 : Chg [] w w12 := hE14
    refine sq (opk_val hA13 rfl (r_move (hA13.get rfl)) fun a19 hA19 _ => ?_)
    have ht20 := ht8 w12 B_11 hN17  hC18
    have ht21 := ht20 hB16
    refine sq (opk_run hA19 rfl (fun _ _ hr => r_append (hA19.get rfl) (hA19.get rfl) hr) ht21 fun a22 v28 w23 hA22 _ hn25 hz26 hK27 => ?_)
    obtain ⟨r_29, rfl, ht24⟩ := hK27
    refine sq (opk_val hA22 rfl (r_assign (hA22.get rfl)) fun a30 hA30 _ => ?_)
    refine sq_end ?_
    have hA31 := hA30.keep [(2, Sl.v r_29)] ⟨rfl, trivial⟩
    refine then_normal ?_
    refine wp_ret ?_
    exact res_all (vs := [Sl.v r_29]) rfl hA31 ⟨res_of_tmp hA31 rfl, trivial⟩ ht24

/-- The condition of slices.BinarySearchFunc[[]topiary/api.Attrtopiary/api.Attrstring]. -/
def slices_BinarySearchFunc__api_Attr_api_Attr_string_.vc (x_1 : Sl) (target_2 : Str) (cmp_3 : Value) (R : Value → World → Prop) (w : World) : Prop :=
∃ (J_18 : Int → Int → World → Prop) (mu_19 : Int → Int → World → Nat),
J_18 0 (x_1.n : Int) w ∧
(∀ (i_15 : Int) (j_16 : Int) (w17 : World), J_18 i_15 j_16 w17 →
((i_15 < j_16) →
(I64 (i_15 + j_16)) ∧
(I64 ((IntKind.u64.wrap (i_15 + j_16)) / 2 ^ 1)) ∧
((0 : Int) ≤ (IntKind.u64.wrap (i_15 + j_16)) / 2 ^ 1 ∧ (IntKind.u64.wrap (i_15 + j_16)) / 2 ^ 1 < (x_1.n : Int)) ∧ ∃ p_106 : Addr, x_1.a = some p_106 ∧
∃ (x_112_Name : Str) (x_112_Value : Str), (Cells w17 (p_106.add (((IntKind.u64.wrap (i_15 + j_16)) / 2 ^ 1).toNat * 2)) [.string (Bs x_112_Name), .string (Bs x_112_Value)]) ∧
∃ (f_116 : FuncId) (fst_117 cap_118 : Array Value), (cmp_3 = .func (.func f_116) fst_117 cap_118) ∧
Body Try.prog f_116 ∧
CallK Try.prog f_116 (fst_117 ++ #[.agg #[.string (Bs x_112_Name), .string (Bs x_112_Value)], .string (Bs target_2)] ++ cap_118) w17 [] (fun v w123 => ∃ (r_121 : Int), v = .int .i64 r_121 ∧
((r_121 < 0) →
(I64 (((IntKind.u64.wrap (i_15 + j_16)) / 2 ^ 1) + 1)) ∧
J_18 (((IntKind.u64.wrap (i_15 + j_16)) / 2 ^ 1) + 1) j_16 w123 ∧ mu_19 (((IntKind.u64.wrap (i_15 + j_16)) / 2 ^ 1) + 1) j_16 w123 < mu_19 i_15 j_16 w17) ∧
((¬ (r_121 < 0)) →
J_18 i_15 ((IntKind.u64.wrap (i_15 + j_16)) / 2 ^ 1) w123 ∧ mu_19 i_15 ((IntKind.u64.wrap (i_15 + j_16)) / 2 ^ 1) w123 < mu_19 i_15 j_16 w17))) ∧
((¬ (i_15 < j_16)) →
∃ p_155 : Addr, (((i_15 < (x_1.n : Int))) → ((0 : Int) ≤ i_15 ∧ i_15 < (x_1.n : Int)) ∧  x_1.a = some p_155) ∧
∃ (x_161_Name : Str) (x_161_Value : Str), (((i_15 < (x_1.n : Int))) → Cells w17 (p_155.add (i_15.toNat * 2)) [.string (Bs x_161_Name), .string (Bs x_161_Value)]) ∧
∃ (f_165 : FuncId) (fst_166 cap_167 : Array Value), (((i_15 < (x_1.n : Int))) → cmp_3 = .func (.func f_165) fst_166 cap_167) ∧
(((i_15 < (x_1.n : Int))) → Body Try.prog f_165) ∧
∃ (r_170 : Int), (((i_15 < (x_1.n : Int))) → Calls Try.prog f_165 (fst_166 ++ #[.agg #[.string (Bs x_161_Name), .string (Bs x_161_Value)], .string (Bs target_2)] ++ cap_167) w17 (Ret fun v w' => Ext w17 w' ∧ v = .int .i64 r_170)) ∧
(∀ w172 : World, Ext w17 w172 →
R (.tuple #[.int .i64 i_15, .bool ((decide (i_15 < (x_1.n : Int))) && (decide (r_170 = 0)))]) w172)))
set_option maxHeartbeats 1000000 in
set_option maxRecDepth 10000 in
theorem slices_BinarySearchFunc__api_Attr_api_Attr_string_.ok (x_1 : Sl) (target_2 : Str) (cmp_3 : Value) {R : Value → World → Prop} {w : World} (ht0 : slices_BinarySearchFunc__api_Attr_api_Attr_string_.vc x_1 target_2 cmp_3 R w) : Calls Try.prog 76 #[Sl.v x_1, .string (Bs target_2), cmp_3] w (Ret R) := by
  refine enter [Sl.v x_1, .string (Bs target_2), cmp_3] Try.func76 rfl Try.ntmps76 rfl ?_
  intro a0 hA0
  unfold slices_BinarySearchFunc__api_Attr_api_Attr_string_.vc at ht0
  refine wp_seq ?_
  refine wp_region_lit ?_
  refine sq (opk_val hA0 rfl (r_assign rfl) fun a4 hA4 _ => ?_)
  refine sq (opk_val hA4 rfl (r_assign rfl) fun a5 hA5 _ => ?_)
  refine sq_end ?_
  have hA6 := hA5.keep [(0, Sl.v x_1), (1, .string (Bs target_2)), (2, cmp_3)] ⟨rfl, rfl, rfl, trivial⟩
  refine then_normal ?_
  refine wp_seq ?_
  refine wp_region_lit ?_
  refine sq (opk_val hA6 rfl (r_move (hA6.get rfl)) fun a7 hA7 _ => ?_)
  refine sq (opk_val hA7 rfl (r_len (hA7.get rfl) Try.underlying26) fun a8 hA8 _ => ?_)
  refine sq (opk_val hA8 rfl (r_assign (hA8.get rfl)) fun a9 hA9 _ => ?_)
  refine sq_end ?_
  have hA10 := hA9.keep [(0, Sl.v x_1), (1, .string (Bs target_2)), (2, cmp_3), (8, .int .i64 (x_1.n : Int))] ⟨rfl, rfl, rfl, rfl, trivial⟩
  refine then_normal ?_
  refine wp_seq ?_
  refine wp_region_lit ?_
  refine sq (opk_val hA10 rfl (r_move (hA10.get rfl)) fun a11 hA11 _ => ?_)
  refine sq (opk_val hA11 rfl (r_assign rfl) fun a12 hA12 _ => ?_)
  refine sq (opk_val hA12 rfl (r_assign (hA12.get rfl)) fun a13 hA13 _ => ?_)
  refine sq_end ?_
  have hA14 := hA13.keep [(0, Sl.v x_1), (1, .string (Bs target_2)), (2, cmp_3), (8, .int .i64 (x_1.n : Int)), (9, .int .i64 0), (10, .int .i64 (x_1.n : Int))] ⟨rfl, rfl, rfl, rfl, rfl, rfl, trivial⟩
  refine then_normal ?_
  refine wp_seq ?_
  refine wp_block ?_
  obtain ⟨J_18, mu_19, h082, ht81⟩ := ht0
  refine wp_loop_st (σ := Int × Int × World) (fun s a w => Ag 49 a [(0, Sl.v x_1), (1, .string (Bs target_2)), (2, cmp_3), (8, .int .i64 (x_1.n : Int)), (9, .int .i64 s.1), (10, .int .i64 s.2.1)] ∧ w = s.2.2 ∧ J_18 s.1 s.2.1 s.2.2) (fun s => mu_19 s.1 s.2.1 s.2.2) (0, (x_1.n : Int), w) ⟨hA14.keep [(0, Sl.v x_1), (1, .string (Bs target_2)), (2, cmp_3), (8, .int .i64 (x_1.n : Int)), (9, .int .i64 0), (10, .int .i64 (x_1.n : Int))] ⟨rfl, rfl, rfl, rfl, rfl, rfl, trivial⟩, rfl, h082⟩ ?_
  rintro ⟨i_15, j_16, w17⟩ a80 w_ ⟨hA80, hw_, hJ84⟩
  have hw_ : w17 = w_ := hw_.symm
  subst hw_
  have ht83 := ht81 i_15 j_16 _ hJ84
  refine wp_seq ?_
  refine wp_seq ?_
  refine wp_region_lit ?_
  refine sq (opk_val hA80 rfl (r_move (hA80.get rfl)) fun a85 hA85 _ => ?_)
  refine sq (opk_val hA85 rfl (r_move (hA85.get rfl)) fun a86 hA86 _ => ?_)
  refine sq (opk_val hA86 rfl (r_lss (hA86.get rfl) (hA86.get rfl)) fun a87 hA87 _ => ?_)
  refine sq_end ?_
  have hA88 := hA87.keep [(0, Sl.v x_1), (1, .string (Bs target_2)), (2, cmp_3), (8, .int .i64 (x_1.n : Int)), (9, .int .i64 i_15), (10, .int .i64 j_16), (17, .bool (decide (i_15 < j_16)))] ⟨rfl, rfl, rfl, rfl, rfl, rfl, rfl, trivial⟩
  refine then_normal ?_
  refine wp_cond_split (hA88.get rfl) (fun hc => ?_) (fun hc => ?_)
  · have ht89 := ht83.1 (of_decide_eq_true hc)
    clear hc
    refine wp_skip ?_
    refine then_normal ?_
    refine wp_block ?_
    refine wp_seq ?_
    refine wp_region_lit ?_
    refine sq (opk_val hA88 rfl (r_move (hA88.get rfl)) fun a91 hA91 _ => ?_)
    refine sq (opk_val hA91 rfl (r_move (hA91.get rfl)) fun a92 hA92 _ => ?_)
    obtain ⟨hS94, ht95⟩ := ht89
    refine sq (opk_val hA92 rfl (r_addI (hA92.get rfl) (hA92.get rfl) hS94) fun a93 hA93 _ => ?_)
    refine sq (opk_val hA93 rfl (r_conv (hA93.get rfl) rfl Try.underlying117) fun a96 hA96 _ => ?_)
    refine sq (opk_val hA96 rfl (r_shr (hA96.get rfl) rfl (by decide) (by decide)) fun a97 hA97 _ => ?_)
    obtain ⟨hS99, ht100⟩ := ht95
    refine sq (opk_val hA97 rfl (r_convI (hA97.get rfl) rfl Try.underlying3 hS99) fun a98 hA98 _ => ?_)
    refine sq (opk_val hA98 rfl (r_assign (hA98.get rfl)) fun a101 hA101 _ => ?_)
    refine sq_end ?_
    have hA102 := hA101.keep [(0, Sl.v x_1), (1, .string (Bs target_2)), (2, cmp_3), (8, .int .i64 (x_1.n : Int)), (9, .int .i64 i_15), (10, .int .i64 j_16), (11, .int .i64 ((IntKind.u64.wrap (i_15 + j_16)) / 2 ^ 1))] ⟨rfl, rfl, rfl, rfl, rfl, rfl, rfl, trivial⟩
    refine then_normal ?_
    refine wp_seq ?_
    refine wp_region_lit ?_
    refine sq (opk_val hA102 rfl (r_move (hA102.get rfl)) fun a103 hA103 _ => ?_)
    refine sq (opk_val hA103 rfl (r_move (hA103.get rfl)) fun a104 hA104 _ => ?_)
    refine sq (opk_val hA104 rfl (r_move (hA104.get rfl)) fun a105 hA105 _ => ?_)
    obtain ⟨hb107, p_106, hp108, ht109⟩ := ht100
    refine sq (opk_val hA105 rfl (r_indexAddr (hA105.get rfl) (hA105.get rfl) Try.underlying26 ti_65 hb107 hp108) fun a110 hA110 _ => ?_)
    obtain ⟨x_112_Name, x_112_Value, hx113, ht114⟩ := ht109
    refine sq (opk_val hA110 rfl (r_loadN Try.underlying65 rfl ti_65 (hA110.get rfl) hx113) fun a111 hA111 _ => ?_)
    refine sq (opk_val hA111 rfl (r_move (hA111.get rfl)) fun a115 hA115 _ => ?_)
    obtain ⟨f_116, fst_117, cap_118, hp119, ht120⟩ := ht114
    obtain ⟨hb125, ht126⟩ := ht120
    refine sq (opk_call hA115 rfl (r_callO (args := #[.agg #[.string (Bs x_112_Name), .string (Bs x_112_Value)], .string (Bs target_2)]) hb125 (map_arr (ml_cons (hA115.get rfl) (ml_cons (hA115.get rfl) ml_nil))) (((hA115.get rfl)).trans hp119)) ht126 fun a122 v130 w123 hA122 _ hn127 hz128 hK129 => ?_)
    obtain ⟨r_121, rfl, ht124⟩ := hK129
    refine sq (opk_val hA122 rfl (r_lss (hA122.get rfl) rfl) fun a131 hA131 _ => ?_)
    refine sq_end ?_
    have hA132 := hA131.keep [(0, Sl.v x_1), (1, .string (Bs target_2)), (2, cmp_3), (8, .int .i64 (x_1.n : Int)), (9, .int .i64 i_15), (10, .int .i64 j_16), (11, .int .i64 ((IntKind.u64.wrap (i_15 + j_16)) / 2 ^ 1)), (31, .bool (decide (r_121 < 0)))] ⟨rfl, rfl, rfl, rfl, rfl, rfl, rfl, rfl, trivial⟩
    refine then_normal ?_
    refine wp_cond_split (hA132.get rfl) (fun hc => ?_) (fun hc => ?_)
    · have ht133 := ht124.1 (of_decide_eq_true hc)
      clear hc
      refine wp_region_lit ?_
      refine sq (opk_val hA132 rfl (r_move (hA132.get rfl)) fun a135 hA135 _ => ?_)
      obtain ⟨hS137, ht138⟩ := ht133
      refine sq (opk_val hA135 rfl (r_addI (hA135.get rfl) rfl hS137) fun a136 hA136 _ => ?_)
      refine sq (opk_val hA136 rfl (r_assign (hA136.get rfl)) fun a139 hA139 _ => ?_)
      refine sq_end ?_
      have hA140 := hA139.keep [(0, Sl.v x_1), (1, .string (Bs target_2)), (2, cmp_3), (8, .int .i64 (x_1.n : Int)), (9, .int .i64 (((IntKind.u64.wrap (i_15 + j_16)) / 2 ^ 1) + 1)), (10, .int .i64 j_16)] ⟨rfl, rfl, rfl, rfl, rfl, rfl, trivial⟩
      refine block_normal ?_
      have hA141 := hA140.keep [(0, Sl.v x_1), (1, .string (Bs target_2)), (2, cmp_3), (8, .int .i64 (x_1.n : Int)), (9, .int .i64 (((IntKind.u64.wrap (i_15 + j_16)) / 2 ^ 1) + 1)), (10, .int .i64 j_16)] ⟨rfl, rfl, rfl, rfl, rfl, rfl, trivial⟩
      exact then_normal ⟨(((IntKind.u64.wrap (i_15 + j_16)) / 2 ^ 1) + 1, j_16, w123), ⟨hA141, rfl, ht138.1⟩, ht138.2⟩
    · have ht134 := ht124.2 (of_decide_eq_false hc)
      clear hc
      refine wp_region_lit ?_
      refine sq (opk_val hA132 rfl (r_move (hA132.get rfl)) fun a142 hA142 _ => ?_)
      refine sq (opk_val hA142 rfl (r_assign (hA142.get rfl)) fun a143 hA143 _ => ?_)
      refine sq_end ?_
      have hA144 := hA143.keep [(0, Sl.v x_1), (1, .string (Bs target_2)), (2, cmp_3), (8, .int .i64 (x_1.n : Int)), (9, .int .i64 i_15), (10, .int .i64 ((IntKind.u64.wrap (i_15 + j_16)) / 2 ^ 1))] ⟨rfl, rfl, rfl, rfl, rfl, rfl, trivial⟩
      refine block_normal ?_
      have hA145 := hA144.keep [(0, Sl.v x_1), (1, .string (Bs target_2)), (2, cmp_3), (8, .int .i64 (x_1.n : Int)), (9, .int .i64 i_15), (10, .int .i64 ((IntKind.u64.wrap (i_15 + j_16)) / 2 ^ 1))] ⟨rfl, rfl, rfl, rfl, rfl, rfl, trivial⟩
      exact then_normal ⟨(i_15, (IntKind.u64.wrap (i_15 + j_16)) / 2 ^ 1, w123), ⟨hA145, rfl, ht134.1⟩, ht134.2⟩
  · have ht90 := ht83.2 (of_decide_eq_false hc)
    clear hc
    refine wp_exit ?_
    refine then_exit ?_
    refine then_exit ?_
    refine block_hit ?_
    have hA146 := hA88.keep [(0, Sl.v x_1), (1, .string (Bs target_2)), (2, cmp_3), (8, .int .i64 (x_1.n : Int)), (9, .int .i64 i_15)] ⟨rfl, rfl, rfl, rfl, rfl, trivial⟩
    refine then_normal ?_
    refine wp_seq ?_
    refine wp_region_lit ?_
    refine sq (opk_val hA146 rfl (r_move (hA146.get rfl)) fun a147 hA147 _ => ?_)
    refine sq (opk_val hA147 rfl (r_move (hA147.get rfl)) fun a148 hA148 _ => ?_)
    refine sq (opk_val hA148 rfl (r_move (hA148.get rfl)) fun a149 hA149 _ => ?_)
    refine sq (opk_val hA149 rfl (r_lss (hA149.get rfl) (hA149.get rfl)) fun a150 hA150 _ => ?_)
    refine sq (opk_val hA150 rfl (r_move (hA150.get rfl)) fun a151 hA151 _ => ?_)
    refine sq (opk_gval hA151 rfl rfl (g := true) (e := (decide (i_15 < (x_1.n : Int)))) rfl (fun hg => r_move (hA151.get rfl)) fun a152 hA152 _ => ?_)
    refine sq (opk_gval hA152 rfl rfl (g := true) (e := (decide (i_15 < (x_1.n : Int)))) rfl (fun hg => r_move (hA152.get rfl)) fun a153 hA153 _ => ?_)
    refine sq (opk_gval hA153 rfl rfl (g := true) (e := (decide (i_15 < (x_1.n : Int)))) rfl (fun hg => r_move (hA153.get rfl)) fun a154 hA154 _ => ?_)
    obtain ⟨p_155, hp157, ht158⟩ := ht90
    refine sq (opk_gval hA154 rfl rfl (g := true) (e := (decide (i_15 < (x_1.n : Int)))) rfl (fun hg => r_indexAddr (cv_get (hA154.get rfl) hg) (cv_get (hA154.get rfl) hg) Try.underlying26 ti_65 (hp157 (of_decide_eq_true (g_t hg))).1 (hp157 (of_decide_eq_true (g_t hg))).2) fun a159 hA159 _ => ?_)
    obtain ⟨x_161_Name, x_161_Value, hx162, ht163⟩ := ht158
    refine sq (opk_gval hA159 rfl rfl (g := true) (e := (decide (i_15 < (x_1.n : Int)))) rfl (fun hg => r_loadN Try.underlying65 rfl ti_65 (cv_get (hA159.get rfl) hg) (hx162 (of_decide_eq_true (g_t hg)))) fun a160 hA160 _ => ?_)
    refine sq (opk_gval hA160 rfl rfl (g := true) (e := (decide (i_15 < (x_1.n : Int)))) rfl (fun hg => r_move (hA160.get rfl)) fun a164 hA164 _ => ?_)
    obtain ⟨f_165, fst_166, cap_167, hp168, ht169⟩ := ht163
    obtain ⟨hb174, ht175⟩ := ht169
    obtain ⟨r_170, hc176, ht173⟩ := ht175
    refine sq (opk_gcall hA164 rfl rfl (g := true) (e := (decide (i_15 < (x_1.n : Int)))) rfl (fun hg => r_callO (args := #[.agg #[.string (Bs x_161_Name), .string (Bs x_161_Value)], .string (Bs target_2)]) (hb174 (of_decide_eq_true (g_t hg))) (map_arr (ml_cons (cv_get (hA164.get rfl) hg) (ml_cons (cv_get (hA164.get rfl) hg) ml_nil))) (((cv_get (hA164.get rfl) hg)).trans (hp168 (of_decide_eq_true (g_t hg))))) (fun hg => hc176 (of_decide_eq_true (g_t hg))) fun a171 w172 hA171 _ hE177 => ?_)
    have hC178 : Chg [] w17 w172 := hE177
    have ht179 := ht173 w172 hE177
    refine sq (opk_gval hA171 rfl rfl (g := true) (e := (decide (i_15 < (x_1.n : Int)))) rfl (fun hg => r_eql (cv_get (hA171.get rfl) hg) rfl) fun a180 hA180 _ => ?_)
    refine sq (opk_val hA180 rfl (r_pick_and (g := (true && ((decide (i_15 < (x_1.n : Int))) == true))) (hA180.get rfl) (hA180.get rfl) (fun he => g_mkt rfl he)) fun a181 hA181 _ => ?_)
    refine sq (opk_val hA181 rfl (r_assign (hA181.get rfl)) fun a182 hA182 _ => ?_)
    refine sq (opk_val hA182 rfl (r_assign (hA182.get rfl)) fun a183 hA183 _ => ?_)
    refine sq_end ?_
    have hA184 := hA183.keep [(6, .int .i64 i_15), (7, .bool ((decide (i_15 < (x_1.n : Int))) && (decide (r_170 = 0))))] ⟨rfl, rfl, trivial⟩
    refine then_normal ?_
    refine wp_ret ?_
    exact res_all (vs := [.int .i64 i_15, .bool ((decide (i_15 < (x_1.n : Int))) && (decide (r_170 = 0)))]) rfl hA184 ⟨res_of_tmp hA184 rfl, res_of_tmp hA184 rfl, trivial⟩ ht179

/-- The condition of strings.Compare. -/
def strings_Compare.vc (a_1 : Str) (b_2 : Str) (R : Value → World → Prop) (w : World) : Prop :=
CallK Try.prog 89 #[.string (Bs a_1), .string (Bs b_2)] w [] (fun v w9 => ∃ (r_7 : Int), v = .int .i64 r_7 ∧
R (.int .i64 r_7) w9)
set_option maxHeartbeats 1000000 in
set_option maxRecDepth 10000 in
theorem strings_Compare.ok (a_1 : Str) (b_2 : Str) {R : Value → World → Prop} {w : World} (ht0 : strings_Compare.vc a_1 b_2 R w) : Calls Try.prog 78 #[.string (Bs a_1), .string (Bs b_2)] w (Ret R) := by
  refine enter [.string (Bs a_1), .string (Bs b_2)] Try.func78 rfl Try.ntmps78 rfl ?_
  intro a0 hA0
  unfold strings_Compare.vc at ht0
  refine wp_seq ?_
  refine wp_region_lit ?_
  refine sq (opk_val hA0 rfl (r_assign rfl) fun a3 hA3 _ => ?_)
  refine sq_end ?_
  have hA4 := hA3.keep [(0, .string (Bs a_1)), (1, .string (Bs b_2))] ⟨rfl, rfl, trivial⟩
  refine then_normal ?_
  refine wp_seq ?_
  refine wp_region_lit ?_
  refine sq (opk_val hA4 rfl (r_move (hA4.get rfl)) fun a5 hA5 _ => ?_)
  refine sq (opk_val hA5 rfl (r_move (hA5.get rfl)) fun a6 hA6 _ => ?_)
  refine sq (opk_call hA6 rfl (r_call (args := #[.string (Bs a_1), .string (Bs b_2)]) Try.func89 (by decide) rfl (map_arr (ml_cons (hA6.get rfl) (ml_cons (hA6.get rfl) ml_nil))) rfl) ht0 fun a8 v14 w9 hA8 _ hn11 hz12 hK13 => ?_)
  obtain ⟨r_7, rfl, ht10⟩ := hK13
  refine sq (opk_val hA8 rfl (r_assign (hA8.get rfl)) fun a15 hA15 _ => ?_)
  refine sq_end ?_
  have hA16 := hA15.keep [(4, .int .i64 r_7)] ⟨rfl, trivial⟩
  refine then_normal ?_
  refine wp_ret ?_
  exact res_all (vs := [.int .i64 r_7]) rfl hA16 ⟨res_of_tmp hA16 rfl, trivial⟩ ht10

/-- The condition of slices.DeleteFunc[[]intint]. -/
def slices_DeleteFunc__int_int_.vc (s_1 : Sl) (del_2 : Value) (R : Value → World → Prop) (w : World) : Prop :=
CallK Try.prog 91 #[Sl.v s_1, del_2] w [] (fun v w9 => ∃ (r_7 : Int), v = .int .i64 r_7 ∧
((r_7 = (-1)) →
R (Sl.v s_1) w9) ∧
((¬ (r_7 = (-1))) →
(I64 (r_7 + 1)) ∧
∃ (J_34 : Int → Int → World → Prop) (mu_35 : Int → Int → World → Nat),
J_34 r_7 (r_7 + 1) w9 ∧
(∀ (i_31 : Int) (j_32 : Int) (w33 : World), J_34 i_31 j_32 w33 →
((j_32 < (s_1.n : Int)) →
((0 : Int) ≤ j_32 ∧ j_32 < (s_1.n : Int)) ∧ ∃ p_133 : Addr, s_1.a = some p_133 ∧
∃ (x_139 : Int), (w33.cell? (p_133.add (j_32.toNat * 1)) = some (.int .i64 x_139)) ∧
∃ (f_146 : FuncId) (fst_147 cap_148 : Array Value), (del_2 = .func (.func f_146) fst_147 cap_148) ∧
Body Try.prog f_146 ∧
CallK Try.prog f_146 (fst_147 ++ #[.int .i64 x_139] ++ cap_148) w33 [] (fun v w153 => ∃ (r_151 : Bool), v = .bool r_151 ∧
((r_151 = false) →
((0 : Int) ≤ i_31 ∧ i_31 < (s_1.n : Int)) ∧ ∃ p_168 : Addr, s_1.a = some p_168 ∧
∃ (B_177 o_178 : Nat) (T_179 : TypeId) (cs_180 : List Value), (p_168.add (i_31.toNat * 1)) = ⟨B_177, o_178, none⟩ ∧ Box w153 B_177 T_179 cs_180 ∧ o_178 + 1 ≤ cs_180.length ∧ (∀ b ∈ [], b ≠ B_177) ∧
(∀ w173 : World, Chg [B_177] w153 w173 → Box w173 B_177 T_179 (putAt cs_180 o_178 [.int .i64 x_139]) →
(I64 (i_31 + 1)) ∧
(I64 (j_32 + 1)) ∧
J_34 (i_31 + 1) (j_32 + 1) w173 ∧ mu_35 (i_31 + 1) (j_32 + 1) w173 < mu_35 i_31 j_32 w33)) ∧
((r_151 = true) →
(I64 (j_32 + 1)) ∧
J_34 i_31 (j_32 + 1) w153 ∧ mu_35 i_31 (j_32 + 1) w153 < mu_35 i_31 j_32 w33))) ∧
((¬ (j_32 < (s_1.n : Int))) →
((0 : Int) ≤ i_31 ∧ i_31 ≤ (s_1.n : Int)) ∧
RunN Try.prog (Builtin.clear_ #[36] 0 #[Sl.v (Sl.cut s_1 1 i_31.toNat s_1.n s_1.c)]) w33 [] (fun w215 =>
((0 : Int) ≤ i_31 ∧ i_31 ≤ (s_1.c : Int)) ∧
R (Sl.v (Sl.cut s_1 1 0 i_31.toNat s_1.c)) w215)))))
set_option maxHeartbeats 1000000 in
set_option maxRecDepth 10000 in
theorem slices_DeleteFunc__int_int_.ok (s_1 : Sl) (del_2 : Value) {R : Value → World → Prop} {w : World} (ht0 : slices_DeleteFunc__int_int_.vc s_1 del_2 R w) : Calls Try.prog 81 #[Sl.v s_1, del_2] w (Ret R) := by
  refine enter [Sl.v s_1, del_2] Try.func81 rfl Try.ntmps81 rfl ?_
  intro a0 hA0
  unfold slices_DeleteFunc__int_int_.vc at ht0
  refine wp_seq ?_
  refine wp_region_lit ?_
  refine sq (opk_val hA0 rfl (r_assign rfl) fun a3 hA3 _ => ?_)
  refine sq_end ?_
  have hA4 := hA3.keep [(0, Sl.v s_1), (1, del_2)] ⟨rfl, rfl, trivial⟩
  refine then_normal ?_
  refine wp_seq ?_
  refine wp_region_lit ?_
  refine sq (opk_val hA4 rfl (r_move (hA4.get rfl)) fun a5 hA5 _ => ?_)
  refine sq (opk_val hA5 rfl (r_move (hA5.get rfl)) fun a6 hA6 _ => ?_)
  refine sq (opk_call hA6 rfl (r_call (args := #[Sl.v s_1, del_2]) Try.func91 (by decide) rfl (map_arr (ml_cons (hA6.get rfl) (ml_cons (hA6.get rfl) ml_nil))) rfl) ht0 fun a8 v14 w9 hA8 _ hn11 hz12 hK13 => ?_)
  obtain ⟨r_7, rfl, ht10⟩ := hK13
  refine sq (opk_val hA8 rfl (r_assign (hA8.get rfl)) fun a15 hA15 _ => ?_)
  refine sq_end ?_
  have hA16 := hA15.keep [(0, Sl.v s_1), (1, del_2), (5, .int .i64 r_7)] ⟨rfl, rfl, rfl, trivial⟩
  refine then_normal ?_
  refine wp_seq ?_
  refine wp_seq ?_
  refine wp_region_lit ?_
  refine sq (opk_val hA16 rfl (r_move (hA16.get rfl)) fun a17 hA17 _ => ?_)
  refine sq (opk_val hA17 rfl (r_eql (hA17.get rfl) rfl) fun a18 hA18 _ => ?_)
  refine sq_end ?_
  have hA19 := hA18.keep [(0, Sl.v s_1), (1, del_2), (5, .int .i64 r_7), (12, .bool (decide (r_7 = (-1))))] ⟨rfl, rfl, rfl, rfl, trivial⟩
  refine then_normal ?_
  refine wp_cond_split (hA19.get rfl) (fun hc => ?_) (fun hc => ?_)
  · have ht20 := ht10.1 (of_decide_eq_true hc)
    clear hc
    refine wp_seq ?_
    refine wp_region_lit ?_
    refine sq (opk_val hA19 rfl (r_move (hA19.get rfl)) fun a22 hA22 _ => ?_)
    refine sq (opk_val hA22 rfl (r_assign (hA22.get rfl)) fun a23 hA23 _ => ?_)
    refine sq_end ?_
    have hA24 := hA23.keep [(4, Sl.v s_1)] ⟨rfl, trivial⟩
    refine then_normal ?_
    refine wp_ret ?_
    refine then_ret ?_
    exact res_all (vs := [Sl.v s_1]) rfl hA24 ⟨res_of_tmp hA24 rfl, trivial⟩ ht20
  · have ht21 := ht10.2 (of_decide_eq_false hc)
    clear hc
    refine wp_skip ?_
    refine then_normal ?_
    refine wp_seq ?_
    refine wp_seq ?_
    refine wp_region_lit ?_
    refine sq (opk_val hA19 rfl (r_move (hA19.get rfl)) fun a25 hA25 _ => ?_)
    obtain ⟨hS27, ht28⟩ := ht21
    refine sq (opk_val hA25 rfl (r_addI (hA25.get rfl) rfl hS27) fun a26 hA26 _ => ?_)
    refine sq (opk_val hA26 rfl (r_assign (hA26.get rfl)) fun a29 hA29 _ => ?_)
    refine sq_end ?_
    have hA30 := hA29.keep [(0, Sl.v s_1), (1, del_2), (5, .int .i64 r_7), (6, .int .i64 (r_7 + 1))] ⟨rfl, rfl, rfl, rfl, trivial⟩
    refine then_normal ?_
    refine wp_block ?_
    obtain ⟨J_34, mu_35, h0121, ht120⟩ := ht28
    refine wp_loop_st (σ := Int × Int × World) (fun s a w => Ag 42 a [(0, Sl.v s_1), (1, del_2), (5, .int .i64 s.1), (6, .int .i64 s.2.1)] ∧ w = s.2.2 ∧ J_34 s.1 s.2.1 s.2.2) (fun s => mu_35 s.1 s.2.1 s.2.2) (r_7, r_7 + 1, w9) ⟨hA30.keep [(0, Sl.v s_1), (1, del_2), (5, .int .i64 r_7), (6, .int .i64 (r_7 + 1))] ⟨rfl, rfl, rfl, rfl, trivial⟩, rfl, h0121⟩ ?_
    rintro ⟨i_31, j_32, w33⟩ a119 w_ ⟨hA119, hw_, hJ123⟩
    have hw_ : w33 = w_ := hw_.symm
    subst hw_
    have ht122 := ht120 i_31 j_32 _ hJ123
    refine wp_seq ?_
    refine wp_seq ?_
    refine wp_region_lit ?_
    refine sq (opk_val hA119 rfl (r_move (hA119.get rfl)) fun a124 hA124 _ => ?_)
    refine sq (opk_val hA124 rfl (r_move (hA124.get rfl)) fun a125 hA125 _ => ?_)
    refine sq (opk_val hA125 rfl (r_len (hA125.get rfl) Try.underlying36) fun a126 hA126 _ => ?_)
    refine sq (opk_val hA126 rfl (r_lss (hA126.get rfl) (hA126.get rfl)) fun a127 hA127 _ => ?_)
    refine sq_end ?_
    have hA128 := hA127.keep [(0, Sl.v s_1), (1, del_2), (5, .int .i64 i_31), (6, .int .i64 j_32), (19, .bool (decide (j_32 < (s_1.n : Int))))] ⟨rfl, rfl, rfl, rfl, rfl, trivial⟩
    refine then_normal ?_
    refine wp_cond_split (hA128.get rfl) (fun hc => ?_) (fun hc => ?_)
    · have ht129 := ht122.1 (of_decide_eq_true hc)
      clear hc
      refine wp_skip ?_
      refine then_normal ?_
      refine wp_seq ?_
      refine wp_block ?_
      refine wp_seq ?_
      refine wp_region_lit ?_
      refine sq (opk_val hA128 rfl (r_move (hA128.get rfl)) fun a131 hA131 _ => ?_)
      refine sq (opk_val hA131 rfl (r_move (hA131.get rfl)) fun a132 hA132 _ => ?_)
      obtain ⟨hb134, p_133, hp135, ht136⟩ := ht129
      refine sq (opk_val hA132 rfl (r_indexAddr (hA132.get rfl) (hA132.get rfl) Try.underlying36 ti_3 hb134 hp135) fun a137 hA137 _ => ?_)
      obtain ⟨x_139, hx140, ht141⟩ := ht136
      refine sq (opk_val hA137 rfl (r_load1 Try.underlying3 rfl (hA137.get rfl) hx140) fun a138 hA138 _ => ?_)
      refine sq (opk_val hA138 rfl (r_assign (hA138.get rfl)) fun a142 hA142 _ => ?_)
      refine sq_end ?_
      have hA143 := hA142.keep [(0, Sl.v s_1), (1, del_2), (5, .int .i64 i_31), (6, .int .i64 j_32), (7, .int .i64 x_139)] ⟨rfl, rfl, rfl, rfl, rfl, trivial⟩
      refine then_normal ?_
      refine wp_seq ?_
      refine wp_region_lit ?_
      refine sq (opk_val hA143 rfl (r_move (hA143.get rfl)) fun a144 hA144 _ => ?_)
      refine sq (opk_val hA144 rfl (r_move (hA144.get rfl)) fun a145 hA145 _ => ?_)
      obtain ⟨f_146, fst_147, cap_148, hp149, ht150⟩ := ht141
      obtain ⟨hb155, ht156⟩ := ht150
      refine sq (opk_call hA145 rfl (r_callO (args := #[.int .i64 x_139]) hb155 (map_arr (ml_cons (hA145.get rfl) ml_nil)) (((hA145.get rfl)).trans hp149)) ht156 fun a152 v160 w153 hA152 _ hn157 hz158 hK159 => ?_)
      obtain ⟨r_151, rfl, ht154⟩ := hK159
      refine sq (opk_val hA152 rfl (r_not (hA152.get rfl)) fun a161 hA161 _ => ?_)
      refine sq_end ?_
      have hA162 := hA161.keep [(0, Sl.v s_1), (1, del_2), (5, .int .i64 i_31), (6, .int .i64 j_32), (7, .int .i64 x_139), (29, .bool (!r_151))] ⟨rfl, rfl, rfl, rfl, rfl, rfl, trivial⟩
      refine then_normal ?_
      refine wp_cond_split (hA162.get rfl) (fun hc => ?_) (fun hc => ?_)
      · have ht163 := ht154.1 (b_not_t hc)
        clear hc
        refine wp_seq ?_
        refine wp_region_lit ?_
        refine sq (opk_val hA162 rfl (r_move (hA162.get rfl)) fun a165 hA165 _ => ?_)
        refine sq (opk_val hA165 rfl (r_move (hA165.get rfl)) fun a166 hA166 _ => ?_)
        refine sq (opk_val hA166 rfl (r_move (hA166.get rfl)) fun a167 hA167 _ => ?_)
        obtain ⟨hb169, p_168, hp170, ht171⟩ := ht163
        refine sq (opk_val hA167 rfl (r_indexAddr (hA167.get rfl) (hA167.get rfl) Try.underlying36 ti_3 hb169 hp170) fun a172 hA172 _ => ?_)
        obtain ⟨B_177, o_178, T_179, cs_180, he181, hb182, hl183, hx184, ht185⟩ := ht171
        refine sq (opk_store hA172 hb182 (r_store (vs := [.int .i64 x_139]) (((hA172.get rfl)).trans (congrArg (fun a => Value.pointer (some a)) he181)) (hA172.get rfl) rfl ti_3 hb182 (Nat.ble_eq_true_of_le hl183) (ones_all [.int .i64 x_139] rfl)) fun a174 w173 hS175 hB176 hA174 => ?_)
        have ht186 := ht185 w173 hS175 hB176
        refine sq_end ?_
        have hA187 := hA174.keep [(0, Sl.v s_1), (1, del_2), (5, .int .i64 i_31), (6, .int .i64 j_32)] ⟨rfl, rfl, rfl, rfl, trivial⟩
        refine then_normal ?_
        refine wp_region_lit ?_
        refine sq (opk_val hA187 rfl (r_move (hA187.get rfl)) fun a188 hA188 _ => ?_)
        obtain ⟨hS190, ht191⟩ := ht186
        refine sq (opk_val hA188 rfl (r_addI (hA188.get rfl) rfl hS190) fun a189 hA189 _ => ?_)
        refine sq (opk_val hA189 rfl (r_assign (hA189.get rfl)) fun a192 hA192 _ => ?_)
        refine sq_end ?_
        have hA193 := hA192.keep [(0, Sl.v s_1), (1, del_2), (5, .int .i64 (i_31 + 1)), (6, .int .i64 j_32)] ⟨rfl, rfl, rfl, rfl, trivial⟩
        refine block_normal ?_
        refine then_normal ?_
        refine wp_region_lit ?_
        refine sq (opk_val hA193 rfl (r_move (hA193.get rfl)) fun a194 hA194 _ => ?_)
        obtain ⟨hS196, ht197⟩ := ht191
        refine sq (opk_val hA194 rfl (r_addI (hA194.get rfl) rfl hS196) fun a195 hA195 _ => ?_)
        refine sq (opk_val hA195 rfl (r_assign (hA195.get rfl)) fun a198 hA198 _ => ?_)
        refine sq_end ?_
        have hA199 := hA198.keep [(0, Sl.v s_1), (1, del_2), (5, .int .i64 (i_31 + 1)), (6, .int .i64 (j_32 + 1))] ⟨rfl, rfl, rfl, rfl, trivial⟩
        have hA200 := hA199.keep [(0, Sl.v s_1), (1, del_2), (5, .int .i64 (i_31 + 1)), (6, .int .i64 (j_32 + 1))] ⟨rfl, rfl, rfl, rfl, trivial⟩
        exact then_normal ⟨(i_31 + 1, j_32 + 1, w173), ⟨hA200, rfl, ht197.1⟩, ht197.2⟩
      · have ht164 := ht154.2 (b_not_f hc)
        clear hc
        refine wp_skip ?_
        refine block_normal ?_
        refine then_normal ?_
        refine wp_region_lit ?_
        refine sq (opk_val hA162 rfl (r_move (hA162.get rfl)) fun a201 hA201 _ => ?_)
        obtain ⟨hS203, ht204⟩ := ht164
        refine sq (opk_val hA201 rfl (r_addI (hA201.get rfl) rfl hS203) fun a202 hA202 _ => ?_)
        refine sq (opk_val hA202 rfl (r_assign (hA202.get rfl)) fun a205 hA205 _ => ?_)
        refine sq_end ?_
        have hA206 := hA205.keep [(0, Sl.v s_1), (1, del_2), (5, .int .i64 i_31), (6, .int .i64 (j_32 + 1))] ⟨rfl, rfl, rfl, rfl, trivial⟩
        have hA207 := hA206.keep [(0, Sl.v s_1), (1, del_2), (5, .int .i64 i_31), (6, .int .i64 (j_32 + 1))] ⟨rfl, rfl, rfl, rfl, trivial⟩
        exact then_normal ⟨(i_31, j_32 + 1, w153), ⟨hA207, rfl, ht204.1⟩, ht204.2⟩
    · have ht130 := ht122.2 (of_decide_eq_false hc)
      clear hc
      refine wp_exit ?_
      refine then_exit ?_
      refine then_exit ?_
      refine block_hit ?_
      have hA208 := hA128.keep [(0, Sl.v s_1), (5, .int .i64 i_31)] ⟨rfl, rfl, trivial⟩
      refine then_normal ?_
      refine wp_seq ?_
      refine wp_region_lit ?_
      refine sq (opk_val hA208 rfl (r_move (hA208.get rfl)) fun a209 hA209 _ => ?_)
      refine sq (opk_val hA209 rfl (r_move (hA209.get rfl)) fun a210 hA210 _ => ?_)
      obtain ⟨hS212, ht213⟩ := ht130
      refine sq (opk_val hA210 rfl (r_sliceL (hA210.get rfl) (hA210.get rfl) Try.underlying36 ti_3 hS212) fun a211 hA211 _ => ?_)
      refine sq (opk_runN hA211 (fun _ hr => r_clear (hA211.get rfl) hr) ht213 fun a214 w215 hA214 hn217 hz218 ht216 => ?_)
      refine sq_end ?_
      have hA219 := hA214.keep [(0, Sl.v s_1), (5, .int .i64 i_31)] ⟨rfl, rfl, trivial⟩
      refine then_normal ?_
      refine wp_seq ?_
      refine wp_region_lit ?_
      refine sq (opk_val hA219 rfl (r_move (hA219.get rfl)) fun a220 hA220 _ => ?_)
      refine sq (opk_val hA220 rfl (r_move (hA220.get rfl)) fun a221 hA221 _ => ?_)
      obtain ⟨hS223, ht224⟩ := ht216
      refine sq (opk_val hA221 rfl (r_sliceH (hA221.get rfl) (hA221.get rfl) Try.underlying36 ti_3 hS223) fun a222 hA222 _ => ?_)
      refine sq (opk_val hA222 rfl (r_assign (hA222.get rfl)) fun a225 hA225 _ => ?_)
      refine sq_end ?_
      have hA226 := hA225.keep [(4, Sl.v (Sl.cut s_1 1 0 i_31.toNat s_1.c))] ⟨rfl, trivial⟩
      refine then_normal ?_
      refine wp_ret ?_
      exact res_all (vs := [Sl.v (Sl.cut s_1 1 0 i_31.toNat s_1.c)]) rfl hA226 ⟨res_of_tmp hA226 rfl, trivial⟩ ht224

/-- The condition of internal/bytealg.CompareString. -/
def bytealg_CompareString.vc (a_1 : Str) (b_2 : Str) (R : Value → World → Prop) (w : World) : Prop :=
R (.int .i64 (Lib.compareBytes a_1 b_2)) w
set_option maxHeartbeats 1000000 in
set_option maxRecDepth 10000 in
theorem bytealg_CompareString.ok (a_1 : Str) (b_2 : Str) {R : Value → World → Prop} {w : World} (ht0 : bytealg_CompareString.vc a_1 b_2 R w) : Calls Try.prog 89 #[.string (Bs a_1), .string (Bs b_2)] w (Ret R) := by
  refine enter [.string (Bs a_1), .string (Bs b_2)] Try.func89 rfl Try.ntmps89 rfl ?_
  intro a0 hA0
  unfold bytealg_CompareString.vc at ht0
  refine wp_seq ?_
  refine wp_region_lit ?_
  refine sq (opk_val hA0 rfl (r_assign rfl) fun a3 hA3 _ => ?_)
  refine sq_end ?_
  have hA4 := hA3.keep [(0, .string (Bs a_1)), (1, .string (Bs b_2))] ⟨rfl, rfl, trivial⟩
  refine then_normal ?_
  refine wp_seq ?_
  refine wp_region_lit ?_
  refine sq (opk_val hA4 rfl (r_move (hA4.get rfl)) fun a5 hA5 _ => ?_)
  refine sq (opk_val hA5 rfl (r_move (hA5.get rfl)) fun a6 hA6 _ => ?_)
  refine sq (opk_val hA6 rfl (r_cmpstr Try.func108 (by kernel_rfl) (by kernel_rfl) (by kernel_rfl) (by kernel_rfl) (map_arr (ml_cons (hA6.get rfl) (ml_cons (hA6.get rfl) ml_nil))) rfl) fun a7 hA7 _ => ?_)
  refine sq (opk_val hA7 rfl (r_assign (hA7.get rfl)) fun a8 hA8 _ => ?_)
  refine sq_end ?_
  have hA9 := hA8.keep [(4, .int .i64 (Lib.compareBytes a_1 b_2))] ⟨rfl, trivial⟩
  refine then_normal ?_
  refine wp_ret ?_
  exact res_all (vs := [.int .i64 (Lib.compareBytes a_1 b_2)]) rfl hA9 ⟨res_of_tmp hA9 rfl, trivial⟩ ht0

/-- The condition of slices.IndexFunc[[]intint]. -/
def slices_IndexFunc__int_int_.vc (s_1 : Sl) (f_2 : Value) (R : Value → World → Prop) (w : World) : Prop :=
∃ (J_11 : Int → World → Prop) (mu_12 : Int → World → Nat),
J_11 0 w ∧
(∀ (x_9 : Int) (w10 : World), J_11 x_9 w10 →
((x_9 < (s_1.n : Int)) →
((0 : Int) ≤ x_9 ∧ x_9 < (s_1.n : Int)) ∧ ∃ p_74 : Addr, s_1.a = some p_74 ∧
∃ (x_80 : Int), (w10.cell? (p_74.add (x_9.toNat * 1)) = some (.int .i64 x_80)) ∧
∃ (f_83 : FuncId) (fst_84 cap_85 : Array Value), (f_2 = .func (.func f_83) fst_84 cap_85) ∧
Body Try.prog f_83 ∧
CallK Try.prog f_83 (fst_84 ++ #[.int .i64 x_80] ++ cap_85) w10 [] (fun v w90 => ∃ (r_88 : Bool), v = .bool r_88 ∧
((r_88 = true) →
R (.int .i64 x_9) w90) ∧
((r_88 = false) →
(I64 (x_9 + 1)) ∧
J_11 (x_9 + 1) w90 ∧ mu_12 (x_9 + 1) w90 < mu_12 x_9 w10))) ∧
((¬ (x_9 < (s_1.n : Int))) →
R (.int .i64 (-1)) w10))
set_option maxHeartbeats 1000000 in
set_option maxRecDepth 10000 in
theorem slices_IndexFunc__int_int_.ok (s_1 : Sl) (f_2 : Value) {R : Value → World → Prop} {w : World} (ht0 : slices_IndexFunc__int_int_.vc s_1 f_2 R w) : Calls Try.prog 91 #[Sl.v s_1, f_2] w (Ret R) := by
  refine enter [Sl.v s_1, f_2] Try.func91 rfl Try.ntmps91 rfl ?_
  intro a0 hA0
  unfold slices_IndexFunc__int_int_.vc at ht0
  refine wp_seq ?_
  refine wp_region_lit ?_
  refine sq (opk_val hA0 rfl (r_assign rfl) fun a3 hA3 _ => ?_)
  refine sq_end ?_
  have hA4 := hA3.keep [(0, Sl.v s_1), (1, f_2)] ⟨rfl, rfl, trivial⟩
  refine then_normal ?_
  refine wp_seq ?_
  refine wp_seq ?_
  refine wp_region_lit ?_
  refine sq (opk_val hA4 rfl (r_move (hA4.get rfl)) fun a5 hA5 _ => ?_)
  refine sq (opk_val hA5 rfl (r_len (hA5.get rfl) Try.underlying36) fun a6 hA6 _ => ?_)
  refine sq (opk_val hA6 rfl (r_move rfl) fun a7 hA7 _ => ?_)
  refine sq_end ?_
  have hA8 := hA7.keep [(0, Sl.v s_1), (1, f_2), (7, .int .i64 (s_1.n : Int)), (8, .int .i64 0)] ⟨rfl, rfl, rfl, rfl, trivial⟩
  refine then_normal ?_
  refine wp_block ?_
  obtain ⟨J_11, mu_12, h061, ht60⟩ := ht0
  refine wp_loop_st (σ := Int × World) (fun s a w => Ag 19 a [(0, Sl.v s_1), (1, f_2), (7, .int .i64 (s_1.n : Int)), (8, .int .i64 s.1)] ∧ w = s.2 ∧ J_11 s.1 s.2) (fun s => mu_12 s.1 s.2) (0, w) ⟨hA8.keep [(0, Sl.v s_1), (1, f_2), (7, .int .i64 (s_1.n : Int)), (8, .int .i64 0)] ⟨rfl, rfl, rfl, rfl, trivial⟩, rfl, h061⟩ ?_
  rintro ⟨x_9, w10⟩ a59 w_ ⟨hA59, hw_, hJ63⟩
  have hw_ : w10 = w_ := hw_.symm
  subst hw_
  have ht62 := ht60 x_9 _ hJ63
  refine wp_seq ?_
  refine wp_region_lit ?_
  refine sq (opk_val hA59 rfl (r_lss (hA59.get rfl) (hA59.get rfl)) fun a64 hA64 _ => ?_)
  refine sq_end ?_
  have hA65 := hA64.keep [(0, Sl.v s_1), (1, f_2), (7, .int .i64 (s_1.n : Int)), (8, .int .i64 x_9), (9, .bool (decide (x_9 < (s_1.n : Int))))] ⟨rfl, rfl, rfl, rfl, rfl, trivial⟩
  refine then_normal ?_
  refine wp_seq ?_
  refine wp_cond_split (hA65.get rfl) (fun hc => ?_) (fun hc => ?_)
  · have ht66 := ht62.1 (of_decide_eq_true hc)
    clear hc
    refine wp_skip ?_
    refine then_normal ?_
    refine wp_seq ?_
    refine wp_block ?_
    refine wp_seq ?_
    refine wp_region_lit ?_
    refine sq (opk_val hA65 rfl (r_move (hA65.get rfl)) fun a68 hA68 _ => ?_)
    refine sq (opk_val hA68 rfl (r_assign (hA68.get rfl)) fun a69 hA69 _ => ?_)
    refine sq_end ?_
    have hA70 := hA69.keep [(0, Sl.v s_1), (1, f_2), (5, .int .i64 x_9), (7, .int .i64 (s_1.n : Int)), (8, .int .i64 x_9)] ⟨rfl, rfl, rfl, rfl, rfl, trivial⟩
    refine then_normal ?_
    refine wp_seq ?_
    refine wp_region_lit ?_
    refine sq (opk_val hA70 rfl (r_move (hA70.get rfl)) fun a71 hA71 _ => ?_)
    refine sq (opk_val hA71 rfl (r_move (hA71.get rfl)) fun a72 hA72 _ => ?_)
    refine sq (opk_val hA72 rfl (r_move (hA72.get rfl)) fun a73 hA73 _ => ?_)
    obtain ⟨hb75, p_74, hp76, ht77⟩ := ht66
    refine sq (opk_val hA73 rfl (r_indexAddr (hA73.get rfl) (hA73.get rfl) Try.underlying36 ti_3 hb75 hp76) fun a78 hA78 _ => ?_)
    obtain ⟨x_80, hx81, ht82⟩ := ht77
    refine sq (opk_val hA78 rfl (r_load1 Try.underlying3 rfl (hA78.get rfl) hx81) fun a79 hA79 _ => ?_)
    obtain ⟨f_83, fst_84, cap_85, hp86, ht87⟩ := ht82
    obtain ⟨hb92, ht93⟩ := ht87
    refine sq (opk_call hA79 rfl (r_callO (args := #[.int .i64 x_80]) hb92 (map_arr (ml_cons (hA79.get rfl) ml_nil)) (((hA79.get rfl)).trans hp86)) ht93 fun a89 v97 w90 hA89 _ hn94 hz95 hK96 => ?_)
    obtain ⟨r_88, rfl, ht91⟩ := hK96
    refine sq_end ?_
    have hA98 := hA89.keep [(0, Sl.v s_1), (1, f_2), (5, .int .i64 x_9), (7, .int .i64 (s_1.n : Int)), (8, .int .i64 x_9), (16, .bool r_88)] ⟨rfl, rfl, rfl, rfl, rfl, rfl, trivial⟩
    refine then_normal ?_
    refine wp_cond_split (hA98.get rfl) (fun hc => ?_) (fun hc => ?_)
    · have ht99 := ht91.1 hc
      clear hc
      refine wp_seq ?_
      refine wp_region_lit ?_
      refine sq (opk_val hA98 rfl (r_move (hA98.get rfl)) fun a101 hA101 _ => ?_)
      refine sq (opk_val hA101 rfl (r_assign (hA101.get rfl)) fun a102 hA102 _ => ?_)
      refine sq_end ?_
      have hA103 := hA102.keep [(4, .int .i64 x_9)] ⟨rfl, trivial⟩
      refine then_normal ?_
      refine wp_ret ?_
      refine block_ret ?_
      refine then_ret ?_
      refine then_ret ?_
      refine block_ret ?_
      refine then_ret ?_
      exact res_all (vs := [.int .i64 x_9]) rfl hA103 ⟨res_of_tmp hA103 rfl, trivial⟩ ht99
    · have ht100 := ht91.2 hc
      clear hc
      refine wp_skip ?_
      refine block_normal ?_
      refine then_normal ?_
      refine wp_region_lit ?_
      obtain ⟨hS105, ht106⟩ := ht100
      refine sq (opk_val hA98 rfl (r_addI (hA98.get rfl) rfl hS105) fun a104 hA104 _ => ?_)
      refine sq (opk_val hA104 rfl (r_move (hA104.get rfl)) fun a107 hA107 _ => ?_)
      refine sq_end ?_
      have hA108 := hA107.keep [(0, Sl.v s_1), (1, f_2), (7, .int .i64 (s_1.n : Int)), (8, .int .i64 (x_9 + 1))] ⟨rfl, rfl, rfl, rfl, trivial⟩
      have hA109 := hA108.keep [(0, Sl.v s_1), (1, f_2), (7, .int .i64 (s_1.n : Int)), (8, .int .i64 (x_9 + 1))] ⟨rfl, rfl, rfl, rfl, trivial⟩
      exact then_normal ⟨(x_9 + 1, w90), ⟨hA109, rfl, ht106.1⟩, ht106.2⟩
  · have ht67 := ht62.2 (of_decide_eq_false hc)
    clear hc
    refine wp_exit ?_
    refine then_exit ?_
    refine then_exit ?_
    refine block_hit ?_
    have hA110 := hA65.keep [] trivial
    refine then_normal ?_
    refine wp_seq ?_
    refine wp_region_lit ?_
    refine sq (opk_val hA110 rfl (r_assign rfl) fun a111 hA111 _ => ?_)
    refine sq_end ?_
    have hA112 := hA111.keep [(4, .int .i64 (-1))] ⟨rfl, trivial⟩
    refine then_normal ?_
    refine wp_ret ?_
    exact res_all (vs := [.int .i64 (-1)]) rfl hA112 ⟨res_of_tmp hA112 rfl, trivial⟩ ht67

end Go.Proofs.Ytghmgfkdnolcdaa
