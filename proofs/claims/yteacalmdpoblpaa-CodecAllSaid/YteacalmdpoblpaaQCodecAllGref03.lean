/-
  PRINTED BY PROGRAM: for each function its condition (vc), and that this suffices (ok).
-/
import Derived.Test.YteacalmdpoblpaaQCodecAllGT
namespace Go.Proofs.Yteacalmdpoblpaa
open Go.RowKit
set_option linter.unusedVariables false

/-- The condition of topiary/topiaryref03.GetText. -/
def ref03_GetText.vc (b_1 : Sl) (at_2 : Int) (most_3 : Int) (R : Value → World → Prop) (w : World) : Prop :=
CallK Try.prog 49 #[Sl.v b_1, .int .i64 at_2] w [] (fun v w14 => ∃ (r_0_10 : Int) (r_1_11 : Int) (r_2_12 : Int), v = .tuple #[.int .u64 r_0_10, .int .i64 r_1_11, .int .i64 r_2_12] ∧
((r_2_12 ≠ 0) →
R (.tuple #[.string (Bs ([] : Str)), .int .i64 0, .int .i64 r_2_12]) w14) ∧
((¬ (r_2_12 ≠ 0)) →
(((most_3 < 0) ∨ ((IntKind.u64.wrap most_3) < r_0_10)) →
R (.tuple #[.string (Bs ([] : Str)), .int .i64 0, .int .i64 2]) w14) ∧
(((¬ (most_3 < 0)) ∧ (¬ ((IntKind.u64.wrap most_3) < r_0_10))) →
(I64 ((b_1.n : Int) - r_1_11)) ∧
(((IntKind.u64.wrap ((b_1.n : Int) - r_1_11)) < r_0_10) →
R (.tuple #[.string (Bs ([] : Str)), .int .i64 0, .int .i64 9]) w14) ∧
((¬ ((IntKind.u64.wrap ((b_1.n : Int) - r_1_11)) < r_0_10)) →
(I64 r_0_10) ∧
(I64 (r_1_11 + r_0_10)) ∧
((0 : Int) ≤ r_1_11 ∧ (r_1_11 : Int) ≤ r_1_11 + r_0_10 ∧ r_1_11 + r_0_10 ≤ (b_1.c : Int)) ∧
∃ s_85 : Str, ((convert 24 9 (Sl.v (Sl.cut b_1 1 r_1_11.toNat (r_1_11 + r_0_10).toNat b_1.c))).run Try.prog w14 = .ok (.string (Bs s_85)) w14) ∧
(I64 r_0_10) ∧
(I64 (r_1_11 + r_0_10)) ∧
R (.tuple #[.string (Bs s_85), .int .i64 (r_1_11 + r_0_10), .int .i64 0]) w14))))
set_option maxHeartbeats 1000000 in
set_option maxRecDepth 10000 in
theorem ref03_GetText.ok (b_1 : Sl) (at_2 : Int) (most_3 : Int) {R : Value → World → Prop} {w : World} (ht0 : ref03_GetText.vc b_1 at_2 most_3 R w) : Calls Try.prog 39 #[Sl.v b_1, .int .i64 at_2, .int .i64 most_3] w (Ret R) := by
  refine enter [Sl.v b_1, .int .i64 at_2, .int .i64 most_3] Try.func39 rfl Try.ntmps39 rfl ?_
  intro a0 hA0
  unfold ref03_GetText.vc at ht0
  refine wp_seq ?_
  refine wp_region_lit ?_
  refine sq (opk_val hA0 rfl (r_assign rfl) fun a4 hA4 _ => ?_)
  refine sq (opk_val hA4 rfl (r_assign rfl) fun a5 hA5 _ => ?_)
  refine sq (opk_val hA5 rfl (r_assign rfl) fun a6 hA6 _ => ?_)
  refine sq_end ?_
  have hA7 := hA6.keep [(0, Sl.v b_1), (1, .int .i64 at_2), (2, .int .i64 most_3)] ⟨rfl, rfl, rfl, trivial⟩
  refine then_normal ?_
  refine wp_seq ?_
  refine wp_region_lit ?_
  refine sq (opk_val hA7 rfl (r_move (hA7.get rfl)) fun a8 hA8 _ => ?_)
  refine sq (opk_val hA8 rfl (r_move (hA8.get rfl)) fun a9 hA9 _ => ?_)
  refine sq (opk_call hA9 rfl (r_call (args := #[Sl.v b_1, .int .i64 at_2]) Try.func49 (by decide) rfl (map_arr (ml_cons (hA9.get rfl) (ml_cons (hA9.get rfl) ml_nil))) rfl) ht0 fun a13 v19 w14 hA13 _ hn16 hz17 hK18 => ?_)
  obtain ⟨r_0_10, r_1_11, r_2_12, rfl, ht15⟩ := hK18
  refine sq (opk_val hA13 rfl (r_move (hA13.get rfl)) fun a20 hA20 _ => ?_)
  refine sq (opk_val hA20 rfl (r_extract (hA20.get rfl) rfl) fun a21 hA21 _ => ?_)
  refine sq (opk_val hA21 rfl (r_extract (hA21.get rfl) rfl) fun a22 hA22 _ => ?_)
  refine sq (opk_val hA22 rfl (r_extract (hA22.get rfl) rfl) fun a23 hA23 _ => ?_)
  refine sq (opk_val hA23 rfl (r_assign (hA23.get rfl)) fun a24 hA24 _ => ?_)
  refine sq (opk_val hA24 rfl (r_assign (hA24.get rfl)) fun a25 hA25 _ => ?_)
  refine sq (opk_val hA25 rfl (r_assign (hA25.get rfl)) fun a26 hA26 _ => ?_)
  refine sq_end ?_
  have hA27 := hA26.keep [(0, Sl.v b_1), (2, .int .i64 most_3), (9, .int .u64 r_0_10), (10, .int .i64 r_1_11), (11, .int .i64 r_2_12)] ⟨rfl, rfl, rfl, rfl, rfl, trivial⟩
  refine then_normal ?_
  refine wp_seq ?_
  refine wp_block ?_
  refine wp_seq ?_
  refine wp_region_lit ?_
  refine sq (opk_val hA27 rfl (r_move (hA27.get rfl)) fun a28 hA28 _ => ?_)
  refine sq (opk_val hA28 rfl (r_neq (hA28.get rfl) rfl) fun a29 hA29 _ => ?_)
  refine sq (opk_val hA29 rfl (r_assign (hA29.get rfl)) fun a30 hA30 _ => ?_)
  refine sq_end ?_
  have hA31 := hA30.keep [(0, Sl.v b_1), (2, .int .i64 most_3), (9, .int .u64 r_0_10), (10, .int .i64 r_1_11), (11, .int .i64 r_2_12), (19, .bool (decide (r_2_12 ≠ 0)))] ⟨rfl, rfl, rfl, rfl, rfl, rfl, trivial⟩
  refine then_normal ?_
  refine wp_cond_split (hA31.get rfl) (fun hc => ?_) (fun hc => ?_)
  · have ht32 := ht15.1 (of_decide_eq_true hc)
    clear hc
    refine wp_seq ?_
    refine wp_region_lit ?_
    refine sq (opk_val hA31 rfl (r_move (hA31.get rfl)) fun a34 hA34 _ => ?_)
    refine sq (opk_val hA34 rfl (r_assign rfl) fun a35 hA35 _ => ?_)
    refine sq (opk_val hA35 rfl (r_assign rfl) fun a36 hA36 _ => ?_)
    refine sq (opk_val hA36 rfl (r_assign (hA36.get rfl)) fun a37 hA37 _ => ?_)
    refine sq_end ?_
    have hA38 := hA37.keep [(6, .string (Bs ([] : Str))), (7, .int .i64 0), (8, .int .i64 r_2_12)] ⟨rfl, rfl, rfl, trivial⟩
    refine then_normal ?_
    refine wp_ret ?_
    refine block_ret ?_
    refine then_ret ?_
    exact res_all (vs := [.string (Bs ([] : Str)), .int .i64 0, .int .i64 r_2_12]) rfl hA38 ⟨res_of_tmp hA38 rfl, res_of_tmp hA38 rfl, res_of_tmp hA38 rfl, trivial⟩ ht32
  · have ht33 := ht15.2 (of_decide_eq_false hc)
    clear hc
    refine wp_seq ?_
    refine wp_region_lit ?_
    refine sq (opk_val hA31 rfl (r_move (hA31.get rfl)) fun a39 hA39 _ => ?_)
    refine sq (opk_val hA39 rfl (r_lss (hA39.get rfl) rfl) fun a40 hA40 _ => ?_)
    refine sq (opk_val hA40 rfl (r_move (hA40.get rfl)) fun a41 hA41 _ => ?_)
    refine sq (opk_gval hA41 rfl rfl (g := true) (e := (decide (most_3 < 0))) rfl (fun hg => r_move (hA41.get rfl)) fun a42 hA42 _ => ?_)
    refine sq (opk_gval hA42 rfl rfl (g := true) (e := (decide (most_3 < 0))) rfl (fun hg => r_move (hA42.get rfl)) fun a43 hA43 _ => ?_)
    refine sq (opk_gval hA43 rfl rfl (g := true) (e := (decide (most_3 < 0))) rfl (fun hg => r_conv (cv_get (hA43.get rfl) hg) rfl Try.underlying22) fun a44 hA44 _ => ?_)
    refine sq (opk_gval hA44 rfl rfl (g := true) (e := (decide (most_3 < 0))) rfl (fun hg => r_gtr (cv_get (hA44.get rfl) hg) (cv_get (hA44.get rfl) hg)) fun a45 hA45 _ => ?_)
    refine sq (opk_val hA45 rfl (r_pick_or (g := (true && ((decide (most_3 < 0)) == false))) (hA45.get rfl) (hA45.get rfl) (fun he => g_mkf rfl he)) fun a46 hA46 _ => ?_)
    refine sq (opk_val hA46 rfl (r_assign (hA46.get rfl)) fun a47 hA47 _ => ?_)
    refine sq_end ?_
    have hA48 := hA47.keep [(0, Sl.v b_1), (9, .int .u64 r_0_10), (10, .int .i64 r_1_11), (23, .bool ((decide (most_3 < 0)) || (decide ((IntKind.u64.wrap most_3) < r_0_10))))] ⟨rfl, rfl, rfl, rfl, trivial⟩
    refine then_normal ?_
    refine wp_cond_split (hA48.get rfl) (fun hc => ?_) (fun hc => ?_)
    · have ht49 := ht33.1 ((b_or_t hc).imp (fun h => (of_decide_eq_true h)) (fun h => (of_decide_eq_true h)))
      clear hc
      refine wp_seq ?_
      refine wp_region_lit ?_
      refine sq (opk_val hA48 rfl (r_assign rfl) fun a51 hA51 _ => ?_)
      refine sq (opk_val hA51 rfl (r_assign rfl) fun a52 hA52 _ => ?_)
      refine sq (opk_val hA52 rfl (r_assign rfl) fun a53 hA53 _ => ?_)
      refine sq_end ?_
      have hA54 := hA53.keep [(6, .string (Bs ([] : Str))), (7, .int .i64 0), (8, .int .i64 2)] ⟨rfl, rfl, rfl, trivial⟩
      refine then_normal ?_
      refine wp_ret ?_
      refine block_ret ?_
      refine then_ret ?_
      exact res_all (vs := [.string (Bs ([] : Str)), .int .i64 0, .int .i64 2]) rfl hA54 ⟨res_of_tmp hA54 rfl, res_of_tmp hA54 rfl, res_of_tmp hA54 rfl, trivial⟩ ht49
    · have ht50 := ht33.2 ⟨(of_decide_eq_false (b_or_f hc).1), (of_decide_eq_false (b_or_f hc).2)⟩
      clear hc
      refine wp_seq ?_
      refine wp_region_lit ?_
      refine sq (opk_val hA48 rfl (r_move (hA48.get rfl)) fun a55 hA55 _ => ?_)
      refine sq (opk_val hA55 rfl (r_move (hA55.get rfl)) fun a56 hA56 _ => ?_)
      refine sq (opk_val hA56 rfl (r_len (hA56.get rfl) Try.underlying24) fun a57 hA57 _ => ?_)
      refine sq (opk_val hA57 rfl (r_move (hA57.get rfl)) fun a58 hA58 _ => ?_)
      obtain ⟨hS60, ht61⟩ := ht50
      refine sq (opk_val hA58 rfl (r_subI (hA58.get rfl) (hA58.get rfl) hS60) fun a59 hA59 _ => ?_)
      refine sq (opk_val hA59 rfl (r_conv (hA59.get rfl) rfl Try.underlying22) fun a62 hA62 _ => ?_)
      refine sq (opk_val hA62 rfl (r_gtr (hA62.get rfl) (hA62.get rfl)) fun a63 hA63 _ => ?_)
      refine sq (opk_val hA63 rfl (r_assign (hA63.get rfl)) fun a64 hA64 _ => ?_)
      refine sq_end ?_
      have hA65 := hA64.keep [(0, Sl.v b_1), (9, .int .u64 r_0_10), (10, .int .i64 r_1_11), (32, .bool (decide ((IntKind.u64.wrap ((b_1.n : Int) - r_1_11)) < r_0_10)))] ⟨rfl, rfl, rfl, rfl, trivial⟩
      refine then_normal ?_
      refine wp_cond_split (hA65.get rfl) (fun hc => ?_) (fun hc => ?_)
      · have ht66 := ht61.1 (of_decide_eq_true hc)
        clear hc
        refine wp_seq ?_
        refine wp_region_lit ?_
        refine sq (opk_val hA65 rfl (r_assign rfl) fun a68 hA68 _ => ?_)
        refine sq (opk_val hA68 rfl (r_assign rfl) fun a69 hA69 _ => ?_)
        refine sq (opk_val hA69 rfl (r_assign rfl) fun a70 hA70 _ => ?_)
        refine sq_end ?_
        have hA71 := hA70.keep [(6, .string (Bs ([] : Str))), (7, .int .i64 0), (8, .int .i64 9)] ⟨rfl, rfl, rfl, trivial⟩
        refine then_normal ?_
        refine wp_ret ?_
        refine block_ret ?_
        refine then_ret ?_
        exact res_all (vs := [.string (Bs ([] : Str)), .int .i64 0, .int .i64 9]) rfl hA71 ⟨res_of_tmp hA71 rfl, res_of_tmp hA71 rfl, res_of_tmp hA71 rfl, trivial⟩ ht66
      · have ht67 := ht61.2 (of_decide_eq_false hc)
        clear hc
        refine wp_skip ?_
        refine block_normal ?_
        refine then_normal ?_
        refine wp_seq ?_
        refine wp_region_lit ?_
        refine sq (opk_val hA65 rfl (r_move (hA65.get rfl)) fun a72 hA72 _ => ?_)
        refine sq (opk_val hA72 rfl (r_move (hA72.get rfl)) fun a73 hA73 _ => ?_)
        refine sq (opk_val hA73 rfl (r_move (hA73.get rfl)) fun a74 hA74 _ => ?_)
        refine sq (opk_val hA74 rfl (r_move (hA74.get rfl)) fun a75 hA75 _ => ?_)
        obtain ⟨hS77, ht78⟩ := ht67
        refine sq (opk_val hA75 rfl (r_convI (hA75.get rfl) rfl Try.underlying3 hS77) fun a76 hA76 _ => ?_)
        obtain ⟨hS80, ht81⟩ := ht78
        refine sq (opk_val hA76 rfl (r_addI (hA76.get rfl) (hA76.get rfl) hS80) fun a79 hA79 _ => ?_)
        obtain ⟨hS83, ht84⟩ := ht81
        refine sq (opk_val hA79 rfl (r_slice2 (hA79.get rfl) (hA79.get rfl) (hA79.get rfl) Try.underlying24 ti_5 hS83) fun a82 hA82 _ => ?_)
        obtain ⟨s_85, hx86, ht87⟩ := ht84
        refine sq (opk_val hA82 rfl (r_convR (hA82.get rfl) hx86) fun a88 hA88 _ => ?_)
        refine sq (opk_val hA88 rfl (r_move (hA88.get rfl)) fun a89 hA89 _ => ?_)
        refine sq (opk_val hA89 rfl (r_move (hA89.get rfl)) fun a90 hA90 _ => ?_)
        obtain ⟨hS92, ht93⟩ := ht87
        refine sq (opk_val hA90 rfl (r_convI (hA90.get rfl) rfl Try.underlying3 hS92) fun a91 hA91 _ => ?_)
        obtain ⟨hS95, ht96⟩ := ht93
        refine sq (opk_val hA91 rfl (r_addI (hA91.get rfl) (hA91.get rfl) hS95) fun a94 hA94 _ => ?_)
        refine sq (opk_val hA94 rfl (r_assign (hA94.get rfl)) fun a97 hA97 _ => ?_)
        refine sq (opk_val hA97 rfl (r_assign (hA97.get rfl)) fun a98 hA98 _ => ?_)
        refine sq (opk_val hA98 rfl (r_assign rfl) fun a99 hA99 _ => ?_)
        refine sq_end ?_
        have hA100 := hA99.keep [(6, .string (Bs s_85)), (7, .int .i64 (r_1_11 + r_0_10)), (8, .int .i64 0)] ⟨rfl, rfl, rfl, trivial⟩
        refine then_normal ?_
        refine wp_ret ?_
        exact res_all (vs := [.string (Bs s_85), .int .i64 (r_1_11 + r_0_10), .int .i64 0]) rfl hA100 ⟨res_of_tmp hA100 rfl, res_of_tmp hA100 rfl, res_of_tmp hA100 rfl, trivial⟩ ht96

/-- The condition of topiary/topiaryref03.Put. -/
def ref03_Put.vc (v_1 : Int) (R : Value → World → Prop) (w : World) : Prop :=
∃ (J_9 : Int → Sl → World → Prop) (mu_10 : Int → Sl → World → Nat),
J_9 v_1 Sl.nil w ∧
(∀ (v_6 : Int) (b_7 : Sl) (w8 : World), J_9 v_6 b_7 w8 →
((128 ≤ v_6) →
∀ (w62 : World) (B_61 : Nat), New w8 B_61 w62 → Chg [] w8 w62 →
∀ (_ : Box w62 B_61 5 [.int .u8 (IntKind.u8.wrap ((IntKind.u8.wrap (v_6.tmod 128)) + 128))]),
RunK Try.prog (Builtin.append_ #[24, 24] 24 #[Sl.v b_7, Sl.v (Sl.mk (some ⟨B_61, 0, none⟩) 1 1)]) w62 [] (fun v w72 => ∃ (r_78 : Sl), v = Sl.v r_78 ∧
J_9 (IntKind.u64.wrap (v_6.tdiv 128)) r_78 w72 ∧ mu_10 (IntKind.u64.wrap (v_6.tdiv 128)) r_78 w72 < mu_10 v_6 b_7 w8)) ∧
((¬ (128 ≤ v_6)) →
∀ (w91 : World) (B_90 : Nat), New w8 B_90 w91 → Chg [] w8 w91 →
∀ (_ : Box w91 B_90 5 [.int .u8 (IntKind.u8.wrap v_6)]),
RunK Try.prog (Builtin.append_ #[24, 24] 24 #[Sl.v b_7, Sl.v (Sl.mk (some ⟨B_90, 0, none⟩) 1 1)]) w91 [] (fun v w101 => ∃ (r_107 : Sl), v = Sl.v r_107 ∧
R (Sl.v r_107) w101)))
set_option maxHeartbeats 1000000 in
set_option maxRecDepth 10000 in
theorem ref03_Put.ok (v_1 : Int) {R : Value → World → Prop} {w : World} (ht0 : ref03_Put.vc v_1 R w) : Calls Try.prog 43 #[.int .u64 v_1] w (Ret R) := by
  refine enter [.int .u64 v_1] Try.func43 rfl Try.ntmps43 rfl ?_
  intro a0 hA0
  unfold ref03_Put.vc at ht0
  refine wp_seq ?_
  refine wp_region_lit ?_
  refine sq (opk_val hA0 rfl (r_assign rfl) fun a2 hA2 _ => ?_)
  refine sq_end ?_
  have hA3 := hA2.keep [(0, .int .u64 v_1)] ⟨rfl, trivial⟩
  refine then_normal ?_
  refine wp_seq ?_
  refine wp_region_lit ?_
  refine sq (opk_val hA3 rfl (r_assign rfl) fun a4 hA4 _ => ?_)
  refine sq_end ?_
  have hA5 := hA4.keep [(0, .int .u64 v_1), (3, Sl.v Sl.nil)] ⟨rfl, rfl, trivial⟩
  refine then_normal ?_
  refine wp_seq ?_
  refine wp_block ?_
  obtain ⟨J_9, mu_10, h048, ht47⟩ := ht0
  refine wp_loop_st (σ := Int × Sl × World) (fun s a w => Ag 20 a [(0, .int .u64 s.1), (3, Sl.v s.2.1)] ∧ w = s.2.2 ∧ J_9 s.1 s.2.1 s.2.2) (fun s => mu_10 s.1 s.2.1 s.2.2) (v_1, Sl.nil, w) ⟨hA5.keep [(0, .int .u64 v_1), (3, Sl.v Sl.nil)] ⟨rfl, rfl, trivial⟩, rfl, h048⟩ ?_
  rintro ⟨v_6, b_7, w8⟩ a46 w_ ⟨hA46, hw_, hJ50⟩
  have hw_ : w8 = w_ := hw_.symm
  subst hw_
  have ht49 := ht47 v_6 b_7 _ hJ50
  refine wp_seq ?_
  refine wp_seq ?_
  refine wp_region_lit ?_
  refine sq (opk_val hA46 rfl (r_move (hA46.get rfl)) fun a51 hA51 _ => ?_)
  refine sq (opk_val hA51 rfl (r_geq (hA51.get rfl) rfl) fun a52 hA52 _ => ?_)
  refine sq_end ?_
  have hA53 := hA52.keep [(0, .int .u64 v_6), (3, Sl.v b_7), (5, .bool (decide (128 ≤ v_6)))] ⟨rfl, rfl, rfl, trivial⟩
  refine then_normal ?_
  refine wp_cond_split (hA53.get rfl) (fun hc => ?_) (fun hc => ?_)
  · have ht54 := ht49.1 (of_decide_eq_true hc)
    clear hc
    refine wp_skip ?_
    refine then_normal ?_
    refine wp_block ?_
    refine wp_seq ?_
    refine wp_region_lit ?_
    refine sq (opk_val hA53 rfl (r_move (hA53.get rfl)) fun a56 hA56 _ => ?_)
    refine sq (opk_val hA56 rfl (r_move (hA56.get rfl)) fun a57 hA57 _ => ?_)
    refine sq (opk_val hA57 rfl (r_rem (hA57.get rfl) rfl (by decide)) fun a58 hA58 _ => ?_)
    refine sq (opk_val hA58 rfl (r_conv (hA58.get rfl) rfl Try.underlying5) fun a59 hA59 _ => ?_)
    refine sq (opk_val hA59 rfl (r_add (hA59.get rfl) rfl) fun a60 hA60 _ => ?_)
    refine sq (opk_new (fun B => .slice (some ⟨B, 0, none⟩) 1 1) hA60 rfl (r_buildSlice (vs := #[(0, .int .u8 (IntKind.u8.wrap ((IntKind.u8.wrap (v_6.tmod 128)) + 128)))]) (cs := [.int .u8 (IntKind.u8.wrap ((IntKind.u8.wrap (v_6.tmod 128)) + 128))]) (map_arr2 (ml2_cons (hA60.get rfl) (ml2_nil))) Try.underlying24 ti_5 rfl rfl (by kernel_rfl)) fun a63 w62 B_61 hE64 hN65 hB66 hA63 _ => ?_)
    have hN67 : New w8 B_61 w62 := hN65
    have hC68 : Chg [] w8 w62 := hE64
    have ht69 := ht54 w62 B_61 hN67  hC68
    have ht70 := ht69 hB66
    refine sq (opk_run hA63 rfl (fun _ _ hr => r_append (hA63.get rfl) (hA63.get rfl) hr) ht70 fun a71 v77 w72 hA71 _ hn74 hz75 hK76 => ?_)
    obtain ⟨r_78, rfl, ht73⟩ := hK76
    refine sq (opk_val hA71 rfl (r_assign (hA71.get rfl)) fun a79 hA79 _ => ?_)
    refine sq_end ?_
    have hA80 := hA79.keep [(0, .int .u64 v_6), (3, Sl.v r_78)] ⟨rfl, rfl, trivial⟩
    refine then_normal ?_
    refine wp_region_lit ?_
    refine sq (opk_val hA80 rfl (r_move (hA80.get rfl)) fun a81 hA81 _ => ?_)
    refine sq (opk_val hA81 rfl (r_quo (hA81.get rfl) rfl (by decide)) fun a82 hA82 _ => ?_)
    refine sq (opk_val hA82 rfl (r_assign (hA82.get rfl)) fun a83 hA83 _ => ?_)
    refine sq_end ?_
    have hA84 := hA83.keep [(0, .int .u64 (IntKind.u64.wrap (v_6.tdiv 128))), (3, Sl.v r_78)] ⟨rfl, rfl, trivial⟩
    refine block_normal ?_
    have hA85 := hA84.keep [(0, .int .u64 (IntKind.u64.wrap (v_6.tdiv 128))), (3, Sl.v r_78)] ⟨rfl, rfl, trivial⟩
    exact then_normal ⟨(IntKind.u64.wrap (v_6.tdiv 128), r_78, w72), ⟨hA85, rfl, ht73.1⟩, ht73.2⟩
  · have ht55 := ht49.2 (of_decide_eq_false hc)
    clear hc
    refine wp_exit ?_
    refine then_exit ?_
    refine then_exit ?_
    refine block_hit ?_
    have hA86 := hA53.keep [(0, .int .u64 v_6), (3, Sl.v b_7)] ⟨rfl, rfl, trivial⟩
    refine then_normal ?_
    refine wp_seq ?_
    refine wp_region_lit ?_
    refine sq (opk_val hA86 rfl (r_move (hA86.get rfl)) fun a87 hA87 _ => ?_)
    refine sq (opk_val hA87 rfl (r_move (hA87.get rfl)) fun a88 hA88 _ => ?_)
    refine sq (opk_val hA88 rfl (r_conv (hA88.get rfl) rfl Try.underlying5) fun a89 hA89 _ => ?_)
    refine sq (opk_new (fun B => .slice (some ⟨B, 0, none⟩) 1 1) hA89 rfl (r_buildSlice (vs := #[(0, .int .u8 (IntKind.u8.wrap v_6))]) (cs := [.int .u8 (IntKind.u8.wrap v_6)]) (map_arr2 (ml2_cons (hA89.get rfl) (ml2_nil))) Try.underlying24 ti_5 rfl rfl (by kernel_rfl)) fun a92 w91 B_90 hE93 hN94 hB95 hA92 _ => ?_)
    have hN96 : New w8 B_90 w91 := hN94
    have hC97 : Chg [] w8 w91 := hE93
    have ht98 := ht55 w91 B_90 hN96  hC97
    have ht99 := ht98 hB95
    refine sq (opk_run hA92 rfl (fun _ _ hr => r_append (hA92.get rfl) (hA92.get rfl) hr) ht99 fun a100 v106 w101 hA100 _ hn103 hz104 hK105 => ?_)
    obtain ⟨r_107, rfl, ht102⟩ := hK105
    refine sq (opk_val hA100 rfl (r_assign (hA100.get rfl)) fun a108 hA108 _ => ?_)
    refine sq_end ?_
    have hA109 := hA108.keep [(2, Sl.v r_107)] ⟨rfl, trivial⟩
    refine then_normal ?_
    refine wp_ret ?_
    exact res_all (vs := [Sl.v r_107]) rfl hA109 ⟨res_of_tmp hA109 rfl, trivial⟩ ht102

/-- The condition of topiary/topiaryref03.Get. -/
def ref03_Get.vc (b_1 : Sl) (at_2 : Int) (R : Value → World → Prop) (w : World) : Prop :=
(((at_2 < 0) ∨ ((b_1.n : Int) < at_2)) →
R (.tuple #[.int .u64 0, .int .i64 0, .int .i64 1]) w) ∧
(((¬ (at_2 < 0)) ∧ (¬ ((b_1.n : Int) < at_2))) →
∃ (J_29 : Int → Int → World → Prop) (mu_30 : Int → Int → World → Nat),
J_29 0 0 w ∧
(∀ (v_26 : Int) (i_27 : Int) (w28 : World), J_29 v_26 i_27 w28 →
((i_27 < 10) →
(I64 ((b_1.n : Int) - at_2)) ∧
((((b_1.n : Int) - at_2) ≤ i_27) →
R (.tuple #[.int .u64 0, .int .i64 0, .int .i64 9]) w28) ∧
((¬ (((b_1.n : Int) - at_2) ≤ i_27)) →
(I64 (at_2 + i_27)) ∧
((0 : Int) ≤ at_2 + i_27 ∧ at_2 + i_27 < (b_1.n : Int)) ∧ ∃ p_165 : Addr, b_1.a = some p_165 ∧
∃ (x_171 : Int), (w28.cell? (p_165.add ((at_2 + i_27).toNat * 1)) = some (.int .u8 x_171)) ∧
(((i_27 = 9) ∧ (1 < x_171)) →
R (.tuple #[.int .u64 0, .int .i64 0, .int .i64 10]) w28) ∧
(((¬ (i_27 = 9)) ∨ (¬ (1 < x_171))) →
(I64 (7 * i_27)) ∧
((0 : Int) ≤ (IntKind.u64.wrap (7 * i_27)) ∧ (IntKind.u64.wrap (7 * i_27)) ≤ 64) ∧
((x_171 < 128) →
(((x_171 = 0) ∧ (0 < i_27)) →
R (.tuple #[.int .u64 0, .int .i64 0, .int .i64 10]) w28) ∧
(((¬ (x_171 = 0)) ∨ (¬ (0 < i_27))) →
(I64 (at_2 + i_27)) ∧
(I64 ((at_2 + i_27) + 1)) ∧
R (.tuple #[.int .u64 (IntKind.u64.wrap (v_26 + (IntKind.u64.wrap ((IntKind.u64.wrap (x_171.tmod 128)) * 2 ^ (IntKind.u64.wrap (7 * i_27)).toNat)))), .int .i64 ((at_2 + i_27) + 1), .int .i64 0]) w28)) ∧
((¬ (x_171 < 128)) →
(I64 (i_27 + 1)) ∧
J_29 (IntKind.u64.wrap (v_26 + (IntKind.u64.wrap ((IntKind.u64.wrap (x_171.tmod 128)) * 2 ^ (IntKind.u64.wrap (7 * i_27)).toNat)))) (i_27 + 1) w28 ∧ mu_30 (IntKind.u64.wrap (v_26 + (IntKind.u64.wrap ((IntKind.u64.wrap (x_171.tmod 128)) * 2 ^ (IntKind.u64.wrap (7 * i_27)).toNat)))) (i_27 + 1) w28 < mu_30 v_26 i_27 w28)))) ∧
((¬ (i_27 < 10)) →
R (.tuple #[.int .u64 0, .int .i64 0, .int .i64 10]) w28)))
set_option maxHeartbeats 1000000 in
set_option maxRecDepth 10000 in
theorem ref03_Get.ok (b_1 : Sl) (at_2 : Int) {R : Value → World → Prop} {w : World} (ht0 : ref03_Get.vc b_1 at_2 R w) : Calls Try.prog 49 #[Sl.v b_1, .int .i64 at_2] w (Ret R) := by
  refine enter [Sl.v b_1, .int .i64 at_2] Try.func49 rfl Try.ntmps49 rfl ?_
  intro a0 hA0
  unfold ref03_Get.vc at ht0
  refine wp_seq ?_
  refine wp_region_lit ?_
  refine sq (opk_val hA0 rfl (r_assign rfl) fun a3 hA3 _ => ?_)
  refine sq (opk_val hA3 rfl (r_assign rfl) fun a4 hA4 _ => ?_)
  refine sq (opk_val hA4 rfl (r_assign rfl) fun a5 hA5 _ => ?_)
  refine sq_end ?_
  have hA6 := hA5.keep [(0, Sl.v b_1), (1, .int .i64 at_2)] ⟨rfl, rfl, trivial⟩
  refine then_normal ?_
  refine wp_seq ?_
  refine wp_seq ?_
  refine wp_region_lit ?_
  refine sq (opk_val hA6 rfl (r_move (hA6.get rfl)) fun a7 hA7 _ => ?_)
  refine sq (opk_val hA7 rfl (r_lss (hA7.get rfl) rfl) fun a8 hA8 _ => ?_)
  refine sq (opk_val hA8 rfl (r_move (hA8.get rfl)) fun a9 hA9 _ => ?_)
  refine sq (opk_gval hA9 rfl rfl (g := true) (e := (decide (at_2 < 0))) rfl (fun hg => r_move (hA9.get rfl)) fun a10 hA10 _ => ?_)
  refine sq (opk_gval hA10 rfl rfl (g := true) (e := (decide (at_2 < 0))) rfl (fun hg => r_move (hA10.get rfl)) fun a11 hA11 _ => ?_)
  refine sq (opk_gval hA11 rfl rfl (g := true) (e := (decide (at_2 < 0))) rfl (fun hg => r_len (cv_get (hA11.get rfl) hg) Try.underlying24) fun a12 hA12 _ => ?_)
  refine sq (opk_gval hA12 rfl rfl (g := true) (e := (decide (at_2 < 0))) rfl (fun hg => r_gtr (cv_get (hA12.get rfl) hg) (cv_get (hA12.get rfl) hg)) fun a13 hA13 _ => ?_)
  refine sq (opk_val hA13 rfl (r_pick_or (g := (true && ((decide (at_2 < 0)) == false))) (hA13.get rfl) (hA13.get rfl) (fun he => g_mkf rfl he)) fun a14 hA14 _ => ?_)
  refine sq_end ?_
  have hA15 := hA14.keep [(0, Sl.v b_1), (1, .int .i64 at_2), (17, .bool ((decide (at_2 < 0)) || (decide ((b_1.n : Int) < at_2))))] ⟨rfl, rfl, rfl, trivial⟩
  refine then_normal ?_
  refine wp_cond_split (hA15.get rfl) (fun hc => ?_) (fun hc => ?_)
  · have ht16 := ht0.1 ((b_or_t hc).imp (fun h => (of_decide_eq_true h)) (fun h => (of_decide_eq_true h)))
    clear hc
    refine wp_seq ?_
    refine wp_region_lit ?_
    refine sq (opk_val hA15 rfl (r_assign rfl) fun a18 hA18 _ => ?_)
    refine sq (opk_val hA18 rfl (r_assign rfl) fun a19 hA19 _ => ?_)
    refine sq (opk_val hA19 rfl (r_assign rfl) fun a20 hA20 _ => ?_)
    refine sq_end ?_
    have hA21 := hA20.keep [(4, .int .u64 0), (5, .int .i64 0), (6, .int .i64 1)] ⟨rfl, rfl, rfl, trivial⟩
    refine then_normal ?_
    refine wp_ret ?_
    refine then_ret ?_
    exact res_all (vs := [.int .u64 0, .int .i64 0, .int .i64 1]) rfl hA21 ⟨res_of_tmp hA21 rfl, res_of_tmp hA21 rfl, res_of_tmp hA21 rfl, trivial⟩ ht16
  · have ht17 := ht0.2 ⟨(of_decide_eq_false (b_or_f hc).1), (of_decide_eq_false (b_or_f hc).2)⟩
    clear hc
    refine wp_skip ?_
    refine then_normal ?_
    refine wp_seq ?_
    refine wp_region_lit ?_
    refine sq (opk_val hA15 rfl (r_assign rfl) fun a22 hA22 _ => ?_)
    refine sq_end ?_
    have hA23 := hA22.keep [(0, Sl.v b_1), (1, .int .i64 at_2), (7, .int .u64 0)] ⟨rfl, rfl, rfl, trivial⟩
    refine then_normal ?_
    refine wp_seq ?_
    refine wp_seq ?_
    refine wp_region_lit ?_
    refine sq (opk_val hA23 rfl (r_assign rfl) fun a24 hA24 _ => ?_)
    refine sq_end ?_
    have hA25 := hA24.keep [(0, Sl.v b_1), (1, .int .i64 at_2), (7, .int .u64 0), (8, .int .i64 0)] ⟨rfl, rfl, rfl, rfl, trivial⟩
    refine then_normal ?_
    refine wp_block ?_
    obtain ⟨J_29, mu_30, h0136, ht135⟩ := ht17
    refine wp_loop_st (σ := Int × Int × World) (fun s a w => Ag 62 a [(0, Sl.v b_1), (1, .int .i64 at_2), (7, .int .u64 s.1), (8, .int .i64 s.2.1)] ∧ w = s.2.2 ∧ J_29 s.1 s.2.1 s.2.2) (fun s => mu_30 s.1 s.2.1 s.2.2) (0, 0, w) ⟨hA25.keep [(0, Sl.v b_1), (1, .int .i64 at_2), (7, .int .u64 0), (8, .int .i64 0)] ⟨rfl, rfl, rfl, rfl, trivial⟩, rfl, h0136⟩ ?_
    rintro ⟨v_26, i_27, w28⟩ a134 w_ ⟨hA134, hw_, hJ138⟩
    have hw_ : w28 = w_ := hw_.symm
    subst hw_
    have ht137 := ht135 v_26 i_27 _ hJ138
    refine wp_seq ?_
    refine wp_seq ?_
    refine wp_region_lit ?_
    refine sq (opk_val hA134 rfl (r_move (hA134.get rfl)) fun a139 hA139 _ => ?_)
    refine sq (opk_val hA139 rfl (r_lss (hA139.get rfl) rfl) fun a140 hA140 _ => ?_)
    refine sq_end ?_
    have hA141 := hA140.keep [(0, Sl.v b_1), (1, .int .i64 at_2), (7, .int .u64 v_26), (8, .int .i64 i_27), (19, .bool (decide (i_27 < 10)))] ⟨rfl, rfl, rfl, rfl, rfl, trivial⟩
    refine then_normal ?_
    refine wp_cond_split (hA141.get rfl) (fun hc => ?_) (fun hc => ?_)
    · have ht142 := ht137.1 (of_decide_eq_true hc)
      clear hc
      refine wp_skip ?_
      refine then_normal ?_
      refine wp_seq ?_
      refine wp_block ?_
      refine wp_seq ?_
      refine wp_seq ?_
      refine wp_region_lit ?_
      refine sq (opk_val hA141 rfl (r_move (hA141.get rfl)) fun a144 hA144 _ => ?_)
      refine sq (opk_val hA144 rfl (r_move (hA144.get rfl)) fun a145 hA145 _ => ?_)
      refine sq (opk_val hA145 rfl (r_len (hA145.get rfl) Try.underlying24) fun a146 hA146 _ => ?_)
      refine sq (opk_val hA146 rfl (r_move (hA146.get rfl)) fun a147 hA147 _ => ?_)
      obtain ⟨hS149, ht150⟩ := ht142
      refine sq (opk_val hA147 rfl (r_subI (hA147.get rfl) (hA147.get rfl) hS149) fun a148 hA148 _ => ?_)
      refine sq (opk_val hA148 rfl (r_geq (hA148.get rfl) (hA148.get rfl)) fun a151 hA151 _ => ?_)
      refine sq_end ?_
      have hA152 := hA151.keep [(0, Sl.v b_1), (1, .int .i64 at_2), (7, .int .u64 v_26), (8, .int .i64 i_27), (27, .bool (decide (((b_1.n : Int) - at_2) ≤ i_27)))] ⟨rfl, rfl, rfl, rfl, rfl, trivial⟩
      refine then_normal ?_
      refine wp_cond_split (hA152.get rfl) (fun hc => ?_) (fun hc => ?_)
      · have ht153 := ht150.1 (of_decide_eq_true hc)
        clear hc
        refine wp_seq ?_
        refine wp_region_lit ?_
        refine sq (opk_val hA152 rfl (r_assign rfl) fun a155 hA155 _ => ?_)
        refine sq (opk_val hA155 rfl (r_assign rfl) fun a156 hA156 _ => ?_)
        refine sq (opk_val hA156 rfl (r_assign rfl) fun a157 hA157 _ => ?_)
        refine sq_end ?_
        have hA158 := hA157.keep [(4, .int .u64 0), (5, .int .i64 0), (6, .int .i64 9)] ⟨rfl, rfl, rfl, trivial⟩
        refine then_normal ?_
        refine wp_ret ?_
        refine then_ret ?_
        refine block_ret ?_
        refine then_ret ?_
        refine then_ret ?_
        refine block_ret ?_
        refine then_ret ?_
        exact res_all (vs := [.int .u64 0, .int .i64 0, .int .i64 9]) rfl hA158 ⟨res_of_tmp hA158 rfl, res_of_tmp hA158 rfl, res_of_tmp hA158 rfl, trivial⟩ ht153
      · have ht154 := ht150.2 (of_decide_eq_false hc)
        clear hc
        refine wp_skip ?_
        refine then_normal ?_
        refine wp_seq ?_
        refine wp_region_lit ?_
        refine sq (opk_val hA152 rfl (r_move (hA152.get rfl)) fun a159 hA159 _ => ?_)
        refine sq (opk_val hA159 rfl (r_move (hA159.get rfl)) fun a160 hA160 _ => ?_)
        refine sq (opk_val hA160 rfl (r_move (hA160.get rfl)) fun a161 hA161 _ => ?_)
        obtain ⟨hS163, ht164⟩ := ht154
        refine sq (opk_val hA161 rfl (r_addI (hA161.get rfl) (hA161.get rfl) hS163) fun a162 hA162 _ => ?_)
        obtain ⟨hb166, p_165, hp167, ht168⟩ := ht164
        refine sq (opk_val hA162 rfl (r_indexAddr (hA162.get rfl) (hA162.get rfl) Try.underlying24 ti_5 hb166 hp167) fun a169 hA169 _ => ?_)
        obtain ⟨x_171, hx172, ht173⟩ := ht168
        refine sq (opk_val hA169 rfl (r_load1 Try.underlying5 rfl (hA169.get rfl) hx172) fun a170 hA170 _ => ?_)
        refine sq (opk_val hA170 rfl (r_assign (hA170.get rfl)) fun a174 hA174 _ => ?_)
        refine sq_end ?_
        have hA175 := hA174.keep [(0, Sl.v b_1), (1, .int .i64 at_2), (7, .int .u64 v_26), (8, .int .i64 i_27), (9, .int .u8 x_171)] ⟨rfl, rfl, rfl, rfl, rfl, trivial⟩
        refine then_normal ?_
        refine wp_seq ?_
        refine wp_seq ?_
        refine wp_region_lit ?_
        refine sq (opk_val hA175 rfl (r_move (hA175.get rfl)) fun a176 hA176 _ => ?_)
        refine sq (opk_val hA176 rfl (r_eql (hA176.get rfl) rfl) fun a177 hA177 _ => ?_)
        refine sq (opk_val hA177 rfl (r_move (hA177.get rfl)) fun a178 hA178 _ => ?_)
        refine sq (opk_gval hA178 rfl rfl (g := true) (e := (decide (i_27 = 9))) rfl (fun hg => r_move (hA178.get rfl)) fun a179 hA179 _ => ?_)
        refine sq (opk_gval hA179 rfl rfl (g := true) (e := (decide (i_27 = 9))) rfl (fun hg => r_gtr (cv_get (hA179.get rfl) hg) rfl) fun a180 hA180 _ => ?_)
        refine sq (opk_val hA180 rfl (r_pick_and (g := (true && ((decide (i_27 = 9)) == true))) (hA180.get rfl) (hA180.get rfl) (fun he => g_mkt rfl he)) fun a181 hA181 _ => ?_)
        refine sq_end ?_
        have hA182 := hA181.keep [(0, Sl.v b_1), (1, .int .i64 at_2), (7, .int .u64 v_26), (8, .int .i64 i_27), (9, .int .u8 x_171), (39, .bool ((decide (i_27 = 9)) && (decide (1 < x_171))))] ⟨rfl, rfl, rfl, rfl, rfl, rfl, trivial⟩
        refine then_normal ?_
        refine wp_cond_split (hA182.get rfl) (fun hc => ?_) (fun hc => ?_)
        · have ht183 := ht173.1 ⟨(of_decide_eq_true (b_and_t hc).1), (of_decide_eq_true (b_and_t hc).2)⟩
          clear hc
          refine wp_seq ?_
          refine wp_region_lit ?_
          refine sq (opk_val hA182 rfl (r_assign rfl) fun a185 hA185 _ => ?_)
          refine sq (opk_val hA185 rfl (r_assign rfl) fun a186 hA186 _ => ?_)
          refine sq (opk_val hA186 rfl (r_assign rfl) fun a187 hA187 _ => ?_)
          refine sq_end ?_
          have hA188 := hA187.keep [(4, .int .u64 0), (5, .int .i64 0), (6, .int .i64 10)] ⟨rfl, rfl, rfl, trivial⟩
          refine then_normal ?_
          refine wp_ret ?_
          refine then_ret ?_
          refine block_ret ?_
          refine then_ret ?_
          refine then_ret ?_
          refine block_ret ?_
          refine then_ret ?_
          exact res_all (vs := [.int .u64 0, .int .i64 0, .int .i64 10]) rfl hA188 ⟨res_of_tmp hA188 rfl, res_of_tmp hA188 rfl, res_of_tmp hA188 rfl, trivial⟩ ht183
        · have ht184 := ht173.2 ((b_and_f hc).imp (fun h => (of_decide_eq_false h)) (fun h => (of_decide_eq_false h)))
          clear hc
          refine wp_skip ?_
          refine then_normal ?_
          refine wp_seq ?_
          refine wp_region_lit ?_
          refine sq (opk_val hA182 rfl (r_move (hA182.get rfl)) fun a189 hA189 _ => ?_)
          refine sq (opk_val hA189 rfl (r_move (hA189.get rfl)) fun a190 hA190 _ => ?_)
          refine sq (opk_val hA190 rfl (r_rem (hA190.get rfl) rfl (by decide)) fun a191 hA191 _ => ?_)
          refine sq (opk_val hA191 rfl (r_conv (hA191.get rfl) rfl Try.underlying22) fun a192 hA192 _ => ?_)
          refine sq (opk_val hA192 rfl (r_move (hA192.get rfl)) fun a193 hA193 _ => ?_)
          obtain ⟨hS195, ht196⟩ := ht184
          refine sq (opk_val hA193 rfl (r_mulI rfl (hA193.get rfl) hS195) fun a194 hA194 _ => ?_)
          refine sq (opk_val hA194 rfl (r_conv (hA194.get rfl) rfl Try.underlying74) fun a197 hA197 _ => ?_)
          obtain ⟨hS199, ht200⟩ := ht196
          refine sq (opk_val hA197 rfl (r_shl (hA197.get rfl) (hA197.get rfl) hS199.1 hS199.2) fun a198 hA198 _ => ?_)
          refine sq (opk_val hA198 rfl (r_add (hA198.get rfl) (hA198.get rfl)) fun a201 hA201 _ => ?_)
          refine sq (opk_val hA201 rfl (r_assign (hA201.get rfl)) fun a202 hA202 _ => ?_)
          refine sq_end ?_
          have hA203 := hA202.keep [(0, Sl.v b_1), (1, .int .i64 at_2), (7, .int .u64 (IntKind.u64.wrap (v_26 + (IntKind.u64.wrap ((IntKind.u64.wrap (x_171.tmod 128)) * 2 ^ (IntKind.u64.wrap (7 * i_27)).toNat))))), (8, .int .i64 i_27), (9, .int .u8 x_171)] ⟨rfl, rfl, rfl, rfl, rfl, trivial⟩
          refine then_normal ?_
          refine wp_seq ?_
          refine wp_region_lit ?_
          refine sq (opk_val hA203 rfl (r_move (hA203.get rfl)) fun a204 hA204 _ => ?_)
          refine sq (opk_val hA204 rfl (r_lss (hA204.get rfl) rfl) fun a205 hA205 _ => ?_)
          refine sq_end ?_
          have hA206 := hA205.keep [(0, Sl.v b_1), (1, .int .i64 at_2), (7, .int .u64 (IntKind.u64.wrap (v_26 + (IntKind.u64.wrap ((IntKind.u64.wrap (x_171.tmod 128)) * 2 ^ (IntKind.u64.wrap (7 * i_27)).toNat))))), (8, .int .i64 i_27), (9, .int .u8 x_171), (50, .bool (decide (x_171 < 128)))] ⟨rfl, rfl, rfl, rfl, rfl, rfl, trivial⟩
          refine then_normal ?_
          refine wp_cond_split (hA206.get rfl) (fun hc => ?_) (fun hc => ?_)
          · have ht207 := ht200.1 (of_decide_eq_true hc)
            clear hc
            refine wp_seq ?_
            refine wp_seq ?_
            refine wp_region_lit ?_
            refine sq (opk_val hA206 rfl (r_move (hA206.get rfl)) fun a209 hA209 _ => ?_)
            refine sq (opk_val hA209 rfl (r_eql (hA209.get rfl) rfl) fun a210 hA210 _ => ?_)
            refine sq (opk_val hA210 rfl (r_move (hA210.get rfl)) fun a211 hA211 _ => ?_)
            refine sq (opk_gval hA211 rfl rfl (g := true) (e := (decide (x_171 = 0))) rfl (fun hg => r_move (hA211.get rfl)) fun a212 hA212 _ => ?_)
            refine sq (opk_gval hA212 rfl rfl (g := true) (e := (decide (x_171 = 0))) rfl (fun hg => r_gtr (cv_get (hA212.get rfl) hg) rfl) fun a213 hA213 _ => ?_)
            refine sq (opk_val hA213 rfl (r_pick_and (g := (true && ((decide (x_171 = 0)) == true))) (hA213.get rfl) (hA213.get rfl) (fun he => g_mkt rfl he)) fun a214 hA214 _ => ?_)
            refine sq_end ?_
            have hA215 := hA214.keep [(1, .int .i64 at_2), (7, .int .u64 (IntKind.u64.wrap (v_26 + (IntKind.u64.wrap ((IntKind.u64.wrap (x_171.tmod 128)) * 2 ^ (IntKind.u64.wrap (7 * i_27)).toNat))))), (8, .int .i64 i_27), (56, .bool ((decide (x_171 = 0)) && (decide (0 < i_27))))] ⟨rfl, rfl, rfl, rfl, trivial⟩
            refine then_normal ?_
            refine wp_cond_split (hA215.get rfl) (fun hc => ?_) (fun hc => ?_)
            · have ht216 := ht207.1 ⟨(of_decide_eq_true (b_and_t hc).1), (of_decide_eq_true (b_and_t hc).2)⟩
              clear hc
              refine wp_seq ?_
              refine wp_region_lit ?_
              refine sq (opk_val hA215 rfl (r_assign rfl) fun a218 hA218 _ => ?_)
              refine sq (opk_val hA218 rfl (r_assign rfl) fun a219 hA219 _ => ?_)
              refine sq (opk_val hA219 rfl (r_assign rfl) fun a220 hA220 _ => ?_)
              refine sq_end ?_
              have hA221 := hA220.keep [(4, .int .u64 0), (5, .int .i64 0), (6, .int .i64 10)] ⟨rfl, rfl, rfl, trivial⟩
              refine then_normal ?_
              refine wp_ret ?_
              refine then_ret ?_
              refine block_ret ?_
              refine then_ret ?_
              refine then_ret ?_
              refine block_ret ?_
              refine then_ret ?_
              exact res_all (vs := [.int .u64 0, .int .i64 0, .int .i64 10]) rfl hA221 ⟨res_of_tmp hA221 rfl, res_of_tmp hA221 rfl, res_of_tmp hA221 rfl, trivial⟩ ht216
            · have ht217 := ht207.2 ((b_and_f hc).imp (fun h => (of_decide_eq_false h)) (fun h => (of_decide_eq_false h)))
              clear hc
              refine wp_skip ?_
              refine then_normal ?_
              refine wp_seq ?_
              refine wp_region_lit ?_
              refine sq (opk_val hA215 rfl (r_move (hA215.get rfl)) fun a222 hA222 _ => ?_)
              refine sq (opk_val hA222 rfl (r_move (hA222.get rfl)) fun a223 hA223 _ => ?_)
              refine sq (opk_val hA223 rfl (r_move (hA223.get rfl)) fun a224 hA224 _ => ?_)
              obtain ⟨hS226, ht227⟩ := ht217
              refine sq (opk_val hA224 rfl (r_addI (hA224.get rfl) (hA224.get rfl) hS226) fun a225 hA225 _ => ?_)
              obtain ⟨hS229, ht230⟩ := ht227
              refine sq (opk_val hA225 rfl (r_addI (hA225.get rfl) rfl hS229) fun a228 hA228 _ => ?_)
              refine sq (opk_val hA228 rfl (r_assign (hA228.get rfl)) fun a231 hA231 _ => ?_)
              refine sq (opk_val hA231 rfl (r_assign (hA231.get rfl)) fun a232 hA232 _ => ?_)
              refine sq (opk_val hA232 rfl (r_assign rfl) fun a233 hA233 _ => ?_)
              refine sq_end ?_
              have hA234 := hA233.keep [(4, .int .u64 (IntKind.u64.wrap (v_26 + (IntKind.u64.wrap ((IntKind.u64.wrap (x_171.tmod 128)) * 2 ^ (IntKind.u64.wrap (7 * i_27)).toNat))))), (5, .int .i64 ((at_2 + i_27) + 1)), (6, .int .i64 0)] ⟨rfl, rfl, rfl, trivial⟩
              refine then_normal ?_
              refine wp_ret ?_
              refine block_ret ?_
              refine then_ret ?_
              refine then_ret ?_
              refine block_ret ?_
              refine then_ret ?_
              exact res_all (vs := [.int .u64 (IntKind.u64.wrap (v_26 + (IntKind.u64.wrap ((IntKind.u64.wrap (x_171.tmod 128)) * 2 ^ (IntKind.u64.wrap (7 * i_27)).toNat)))), .int .i64 ((at_2 + i_27) + 1), .int .i64 0]) rfl hA234 ⟨res_of_tmp hA234 rfl, res_of_tmp hA234 rfl, res_of_tmp hA234 rfl, trivial⟩ ht230
          · have ht208 := ht200.2 (of_decide_eq_false hc)
            clear hc
            refine wp_skip ?_
            refine block_normal ?_
            refine then_normal ?_
            refine wp_region_lit ?_
            refine sq (opk_val hA206 rfl (r_move (hA206.get rfl)) fun a235 hA235 _ => ?_)
            obtain ⟨hS237, ht238⟩ := ht208
            refine sq (opk_val hA235 rfl (r_addI (hA235.get rfl) rfl hS237) fun a236 hA236 _ => ?_)
            refine sq (opk_val hA236 rfl (r_assign (hA236.get rfl)) fun a239 hA239 _ => ?_)
            refine sq_end ?_
            have hA240 := hA239.keep [(0, Sl.v b_1), (1, .int .i64 at_2), (7, .int .u64 (IntKind.u64.wrap (v_26 + (IntKind.u64.wrap ((IntKind.u64.wrap (x_171.tmod 128)) * 2 ^ (IntKind.u64.wrap (7 * i_27)).toNat))))), (8, .int .i64 (i_27 + 1))] ⟨rfl, rfl, rfl, rfl, trivial⟩
            have hA241 := hA240.keep [(0, Sl.v b_1), (1, .int .i64 at_2), (7, .int .u64 (IntKind.u64.wrap (v_26 + (IntKind.u64.wrap ((IntKind.u64.wrap (x_171.tmod 128)) * 2 ^ (IntKind.u64.wrap (7 * i_27)).toNat))))), (8, .int .i64 (i_27 + 1))] ⟨rfl, rfl, rfl, rfl, trivial⟩
            exact then_normal ⟨(IntKind.u64.wrap (v_26 + (IntKind.u64.wrap ((IntKind.u64.wrap (x_171.tmod 128)) * 2 ^ (IntKind.u64.wrap (7 * i_27)).toNat))), i_27 + 1, w28), ⟨hA241, rfl, ht238.1⟩, ht238.2⟩
    · have ht143 := ht137.2 (of_decide_eq_false hc)
      clear hc
      refine wp_exit ?_
      refine then_exit ?_
      refine then_exit ?_
      refine block_hit ?_
      have hA242 := hA141.keep [] trivial
      refine then_normal ?_
      refine wp_seq ?_
      refine wp_region_lit ?_
      refine sq (opk_val hA242 rfl (r_assign rfl) fun a243 hA243 _ => ?_)
      refine sq (opk_val hA243 rfl (r_assign rfl) fun a244 hA244 _ => ?_)
      refine sq (opk_val hA244 rfl (r_assign rfl) fun a245 hA245 _ => ?_)
      refine sq_end ?_
      have hA246 := hA245.keep [(4, .int .u64 0), (5, .int .i64 0), (6, .int .i64 10)] ⟨rfl, rfl, rfl, trivial⟩
      refine then_normal ?_
      refine wp_ret ?_
      exact res_all (vs := [.int .u64 0, .int .i64 0, .int .i64 10]) rfl hA246 ⟨res_of_tmp hA246 rfl, res_of_tmp hA246 rfl, res_of_tmp hA246 rfl, trivial⟩ ht143

end Go.Proofs.Yteacalmdpoblpaa
