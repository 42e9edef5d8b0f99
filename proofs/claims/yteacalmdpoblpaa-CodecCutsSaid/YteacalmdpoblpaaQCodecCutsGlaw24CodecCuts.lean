/-
  PRINTED BY PROGRAM: for each function its condition (vc), and that this suffices (ok).
-/
import Derived.Test.YteacalmdpoblpaaQCodecCutsGT
namespace Go.Proofs.Yteacalmdpoblpaa
open Go.RowKit
set_option linter.unusedVariables false

/-- The condition of topiary/topiarylaw24.CodecCuts. -/
def law24_CodecCuts.vc (base_1 : Int) (target_2 : Int) (n_3 : Int) (more_4 : Int) (R : Value → World → Prop) (w : World) : Prop :=
CallK Try.prog 10 #[.int .u64 base_1, .int .u64 target_2, Sl.v Sl.nil] w [] (fun v w12 => ∃ (r_0_9 : Sl) (r_1_10 : Int), v = .tuple #[Sl.v r_0_9, .int .i64 r_1_10] ∧
CallK Try.prog 19 #[.int .i64 n_3, .int .i64 26] w12 [] (fun v w27 => ∃ (r_25 : Int), v = .int .i64 r_25 ∧
(((r_0_9.n : Int) ≠ 26) →
R (.bool false) w27) ∧
((¬ ((r_0_9.n : Int) ≠ 26)) →
((0 : Int) ≤ r_25 ∧ r_25 ≤ (r_0_9.c : Int)) ∧
CallK Try.prog 13 #[Sl.v (Sl.cut r_0_9 1 0 r_25.toNat r_0_9.c)] w27 [] (fun v w53 => ∃ (r_0_48 : Int) (r_1_49 : Int) (r_2_50 : Sl) (r_3_51 : Int), v = .tuple #[.int .u64 r_0_48, .int .u64 r_1_49, Sl.v r_2_50, .int .i64 r_3_51] ∧
CallK Try.prog 14 #[Sl.v r_0_9] w53 [] (fun v w72 => ∃ (r_70 : Sl), v = Sl.v r_70 ∧
∀ (w80 : World) (B_79 : Nat), New w72 B_79 w80 → Chg [] w72 w80 →
∀ (_ : Box w80 B_79 5 [.int .u8 more_4]),
RunK Try.prog (Builtin.append_ #[24, 24] 24 #[Sl.v r_70, Sl.v (Sl.mk (some ⟨B_79, 0, none⟩) 1 1)]) w80 [] (fun v w90 => ∃ (r_96 : Sl), v = Sl.v r_96 ∧
CallK Try.prog 13 #[Sl.v r_96] w90 [] (fun v w105 => ∃ (r_0_100 : Int) (r_1_101 : Int) (r_2_102 : Sl) (r_3_103 : Int), v = .tuple #[.int .u64 r_0_100, .int .u64 r_1_101, Sl.v r_2_102, .int .i64 r_3_103] ∧
RunK Try.prog (Instr.makeSlice 24 (.int .i64 65537) (.int .i64 65537)) w105 [] (fun v w122 => ∃ (r_128 : Sl), v = Sl.v r_128 ∧
CallK Try.prog 13 #[Sl.v r_128] w122 [] (fun v w134 => ∃ (r_0_129 : Int) (r_1_130 : Int) (r_2_131 : Sl) (r_3_132 : Int), v = .tuple #[.int .u64 r_0_129, .int .u64 r_1_130, Sl.v r_2_131, .int .i64 r_3_132] ∧
∃ (r_183 : Bool), ((((((((((r_1_10 = 0) ∧ ((r_0_9.n : Int) = 26)) ∧ (r_3_51 = 9)) ∧ (r_3_103 ≠ 0)) ∧ (r_0_100 = 0)) ∧ (r_1_101 = 0)) ∧ ((r_2_102.n : Int) = 0)) ∧ (r_3_132 = 2))) → Calls Try.prog 9 #[] w134 (Ret fun v w' => Ext w134 w' ∧ v = .bool r_183)) ∧
(∀ w185 : World, Ext w134 w185 →
R (.bool (((((((((decide (r_1_10 = 0)) && (decide ((r_0_9.n : Int) = 26))) && (decide (r_3_51 = 9))) && (decide (r_3_103 ≠ 0))) && (decide (r_0_100 = 0))) && (decide (r_1_101 = 0))) && (decide ((r_2_102.n : Int) = 0))) && (decide (r_3_132 = 2))) && r_183)) w185))))))))))
set_option maxHeartbeats 1000000 in
set_option maxRecDepth 10000 in
theorem law24_CodecCuts.ok (base_1 : Int) (target_2 : Int) (n_3 : Int) (more_4 : Int) {R : Value → World → Prop} {w : World} (ht0 : law24_CodecCuts.vc base_1 target_2 n_3 more_4 R w) : Calls Try.prog 7 #[.int .u64 base_1, .int .u64 target_2, .int .i64 n_3, .int .u8 more_4] w (Ret R) := by
  refine enter [.int .u64 base_1, .int .u64 target_2, .int .i64 n_3, .int .u8 more_4] Try.func7 rfl Try.ntmps7 rfl ?_
  intro a0 hA0
  unfold law24_CodecCuts.vc at ht0
  refine wp_seq ?_
  refine wp_region_lit ?_
  refine sq (opk_val hA0 rfl (r_assign rfl) fun a5 hA5 _ => ?_)
  refine sq_end ?_
  have hA6 := hA5.keep [(0, .int .u64 base_1), (1, .int .u64 target_2), (2, .int .i64 n_3), (3, .int .u8 more_4)] ⟨rfl, rfl, rfl, rfl, trivial⟩
  refine then_normal ?_
  refine wp_seq ?_
  refine wp_region_lit ?_
  refine sq (opk_val hA6 rfl (r_move (hA6.get rfl)) fun a7 hA7 _ => ?_)
  refine sq (opk_val hA7 rfl (r_move (hA7.get rfl)) fun a8 hA8 _ => ?_)
  refine sq (opk_call hA8 rfl (r_call (args := #[.int .u64 base_1, .int .u64 target_2, Sl.v Sl.nil]) Try.func10 (by decide) rfl (map_arr (ml_cons (hA8.get rfl) (ml_cons (hA8.get rfl) (ml_cons rfl ml_nil)))) rfl) ht0 fun a11 v17 w12 hA11 _ hn14 hz15 hK16 => ?_)
  obtain ⟨r_0_9, r_1_10, rfl, ht13⟩ := hK16
  refine sq (opk_val hA11 rfl (r_move (hA11.get rfl)) fun a18 hA18 _ => ?_)
  refine sq (opk_val hA18 rfl (r_extract (hA18.get rfl) rfl) fun a19 hA19 _ => ?_)
  refine sq (opk_val hA19 rfl (r_extract (hA19.get rfl) rfl) fun a20 hA20 _ => ?_)
  refine sq (opk_val hA20 rfl (r_assign (hA20.get rfl)) fun a21 hA21 _ => ?_)
  refine sq (opk_val hA21 rfl (r_assign (hA21.get rfl)) fun a22 hA22 _ => ?_)
  refine sq_end ?_
  have hA23 := hA22.keep [(2, .int .i64 n_3), (3, .int .u8 more_4), (9, Sl.v r_0_9), (10, .int .i64 r_1_10)] ⟨rfl, rfl, rfl, rfl, trivial⟩
  refine then_normal ?_
  refine wp_seq ?_
  refine wp_region_lit ?_
  refine sq (opk_val hA23 rfl (r_move (hA23.get rfl)) fun a24 hA24 _ => ?_)
  refine sq (opk_call hA24 rfl (r_call (args := #[.int .i64 n_3, .int .i64 26]) Try.func19 (by decide) rfl (map_arr (ml_cons (hA24.get rfl) (ml_cons rfl ml_nil))) rfl) ht13 fun a26 v32 w27 hA26 _ hn29 hz30 hK31 => ?_)
  obtain ⟨r_25, rfl, ht28⟩ := hK31
  refine sq (opk_val hA26 rfl (r_assign (hA26.get rfl)) fun a33 hA33 _ => ?_)
  refine sq_end ?_
  have hA34 := hA33.keep [(3, .int .u8 more_4), (9, Sl.v r_0_9), (10, .int .i64 r_1_10), (11, .int .i64 r_25)] ⟨rfl, rfl, rfl, rfl, trivial⟩
  refine then_normal ?_
  refine wp_seq ?_
  refine wp_seq ?_
  refine wp_region_lit ?_
  refine sq (opk_val hA34 rfl (r_move (hA34.get rfl)) fun a35 hA35 _ => ?_)
  refine sq (opk_val hA35 rfl (r_len (hA35.get rfl) Try.underlying24) fun a36 hA36 _ => ?_)
  refine sq (opk_val hA36 rfl (r_neq (hA36.get rfl) rfl) fun a37 hA37 _ => ?_)
  refine sq_end ?_
  have hA38 := hA37.keep [(3, .int .u8 more_4), (9, Sl.v r_0_9), (10, .int .i64 r_1_10), (11, .int .i64 r_25), (35, .bool (decide ((r_0_9.n : Int) ≠ 26)))] ⟨rfl, rfl, rfl, rfl, rfl, trivial⟩
  refine then_normal ?_
  refine wp_cond_split (hA38.get rfl) (fun hc => ?_) (fun hc => ?_)
  · have ht39 := ht28.1 (of_decide_eq_true hc)
    clear hc
    refine wp_seq ?_
    refine wp_region_lit ?_
    refine sq (opk_val hA38 rfl (r_assign rfl) fun a41 hA41 _ => ?_)
    refine sq_end ?_
    have hA42 := hA41.keep [(8, .bool false)] ⟨rfl, trivial⟩
    refine then_normal ?_
    refine wp_ret ?_
    refine then_ret ?_
    exact res_all (vs := [.bool false]) rfl hA42 ⟨res_of_tmp hA42 rfl, trivial⟩ ht39
  · have ht40 := ht28.2 (of_decide_eq_false hc)
    clear hc
    refine wp_skip ?_
    refine then_normal ?_
    refine wp_seq ?_
    refine wp_region_lit ?_
    refine sq (opk_val hA38 rfl (r_move (hA38.get rfl)) fun a43 hA43 _ => ?_)
    refine sq (opk_val hA43 rfl (r_move (hA43.get rfl)) fun a44 hA44 _ => ?_)
    obtain ⟨hS46, ht47⟩ := ht40
    refine sq (opk_val hA44 rfl (r_sliceH (hA44.get rfl) (hA44.get rfl) Try.underlying24 ti_5 hS46) fun a45 hA45 _ => ?_)
    refine sq (opk_call hA45 rfl (r_call (args := #[Sl.v (Sl.cut r_0_9 1 0 r_25.toNat r_0_9.c)]) Try.func13 (by decide) rfl (map_arr (ml_cons (hA45.get rfl) ml_nil)) rfl) ht47 fun a52 v58 w53 hA52 _ hn55 hz56 hK57 => ?_)
    obtain ⟨r_0_48, r_1_49, r_2_50, r_3_51, rfl, ht54⟩ := hK57
    refine sq (opk_val hA52 rfl (r_move (hA52.get rfl)) fun a59 hA59 _ => ?_)
    refine sq (opk_val hA59 rfl (r_extract (hA59.get rfl) rfl) fun a60 hA60 _ => ?_)
    refine sq (opk_val hA60 rfl (r_extract (hA60.get rfl) rfl) fun a61 hA61 _ => ?_)
    refine sq (opk_val hA61 rfl (r_extract (hA61.get rfl) rfl) fun a62 hA62 _ => ?_)
    refine sq (opk_val hA62 rfl (r_extract (hA62.get rfl) rfl) fun a63 hA63 _ => ?_)
    refine sq (opk_val hA63 rfl (r_assign (hA63.get rfl)) fun a64 hA64 _ => ?_)
    refine sq (opk_val hA64 rfl (r_assign (hA64.get rfl)) fun a65 hA65 _ => ?_)
    refine sq (opk_val hA65 rfl (r_assign (hA65.get rfl)) fun a66 hA66 _ => ?_)
    refine sq (opk_val hA66 rfl (r_assign (hA66.get rfl)) fun a67 hA67 _ => ?_)
    refine sq_end ?_
    have hA68 := hA67.keep [(3, .int .u8 more_4), (9, Sl.v r_0_9), (10, .int .i64 r_1_10), (15, .int .i64 r_3_51)] ⟨rfl, rfl, rfl, rfl, trivial⟩
    refine then_normal ?_
    refine wp_seq ?_
    refine wp_region_lit ?_
    refine sq (opk_val hA68 rfl (r_move (hA68.get rfl)) fun a69 hA69 _ => ?_)
    refine sq (opk_call hA69 rfl (r_call (args := #[Sl.v r_0_9]) Try.func14 (by decide) rfl (map_arr (ml_cons (hA69.get rfl) ml_nil)) rfl) ht54 fun a71 v77 w72 hA71 _ hn74 hz75 hK76 => ?_)
    obtain ⟨r_70, rfl, ht73⟩ := hK76
    refine sq (opk_val hA71 rfl (r_move (hA71.get rfl)) fun a78 hA78 _ => ?_)
    refine sq (opk_new (fun B => .slice (some ⟨B, 0, none⟩) 1 1) hA78 rfl (r_buildSlice (vs := #[(0, .int .u8 more_4)]) (cs := [.int .u8 more_4]) (map_arr2 (ml2_cons (hA78.get rfl) (ml2_nil))) Try.underlying24 ti_5 rfl rfl (by kernel_rfl)) fun a81 w80 B_79 hE82 hN83 hB84 hA81 _ => ?_)
    have hN85 : New w72 B_79 w80 := hN83
    have hC86 : Chg [] w72 w80 := hE82
    have ht87 := ht73 w80 B_79 hN85  hC86
    have ht88 := ht87 hB84
    refine sq (opk_run hA81 rfl (fun _ _ hr => r_append (hA81.get rfl) (hA81.get rfl) hr) ht88 fun a89 v95 w90 hA89 _ hn92 hz93 hK94 => ?_)
    obtain ⟨r_96, rfl, ht91⟩ := hK94
    refine sq (opk_val hA89 rfl (r_assign (hA89.get rfl)) fun a97 hA97 _ => ?_)
    refine sq_end ?_
    have hA98 := hA97.keep [(9, Sl.v r_0_9), (10, .int .i64 r_1_10), (15, .int .i64 r_3_51), (16, Sl.v r_96)] ⟨rfl, rfl, rfl, rfl, trivial⟩
    refine then_normal ?_
    refine wp_seq ?_
    refine wp_region_lit ?_
    refine sq (opk_val hA98 rfl (r_move (hA98.get rfl)) fun a99 hA99 _ => ?_)
    refine sq (opk_call hA99 rfl (r_call (args := #[Sl.v r_96]) Try.func13 (by decide) rfl (map_arr (ml_cons (hA99.get rfl) ml_nil)) rfl) ht91 fun a104 v110 w105 hA104 _ hn107 hz108 hK109 => ?_)
    obtain ⟨r_0_100, r_1_101, r_2_102, r_3_103, rfl, ht106⟩ := hK109
    refine sq (opk_val hA104 rfl (r_move (hA104.get rfl)) fun a111 hA111 _ => ?_)
    refine sq (opk_val hA111 rfl (r_extract (hA111.get rfl) rfl) fun a112 hA112 _ => ?_)
    refine sq (opk_val hA112 rfl (r_extract (hA112.get rfl) rfl) fun a113 hA113 _ => ?_)
    refine sq (opk_val hA113 rfl (r_extract (hA113.get rfl) rfl) fun a114 hA114 _ => ?_)
    refine sq (opk_val hA114 rfl (r_extract (hA114.get rfl) rfl) fun a115 hA115 _ => ?_)
    refine sq (opk_val hA115 rfl (r_assign (hA115.get rfl)) fun a116 hA116 _ => ?_)
    refine sq (opk_val hA116 rfl (r_assign (hA116.get rfl)) fun a117 hA117 _ => ?_)
    refine sq (opk_val hA117 rfl (r_assign (hA117.get rfl)) fun a118 hA118 _ => ?_)
    refine sq (opk_val hA118 rfl (r_assign (hA118.get rfl)) fun a119 hA119 _ => ?_)
    refine sq_end ?_
    have hA120 := hA119.keep [(9, Sl.v r_0_9), (10, .int .i64 r_1_10), (15, .int .i64 r_3_51), (17, .int .u64 r_0_100), (18, .int .u64 r_1_101), (19, Sl.v r_2_102), (20, .int .i64 r_3_103)] ⟨rfl, rfl, rfl, rfl, rfl, rfl, rfl, trivial⟩
    refine then_normal ?_
    refine wp_seq ?_
    refine wp_region_lit ?_
    refine sq (opk_run hA120 rfl (fun _ _ hr => r_makeSlice rfl rfl hr) ht106 fun a121 v127 w122 hA121 _ hn124 hz125 hK126 => ?_)
    obtain ⟨r_128, rfl, ht123⟩ := hK126
    refine sq (opk_call hA121 rfl (r_call (args := #[Sl.v r_128]) Try.func13 (by decide) rfl (map_arr (ml_cons (hA121.get rfl) ml_nil)) rfl) ht123 fun a133 v139 w134 hA133 _ hn136 hz137 hK138 => ?_)
    obtain ⟨r_0_129, r_1_130, r_2_131, r_3_132, rfl, ht135⟩ := hK138
    refine sq (opk_val hA133 rfl (r_move (hA133.get rfl)) fun a140 hA140 _ => ?_)
    refine sq (opk_val hA140 rfl (r_extract (hA140.get rfl) rfl) fun a141 hA141 _ => ?_)
    refine sq (opk_val hA141 rfl (r_extract (hA141.get rfl) rfl) fun a142 hA142 _ => ?_)
    refine sq (opk_val hA142 rfl (r_extract (hA142.get rfl) rfl) fun a143 hA143 _ => ?_)
    refine sq (opk_val hA143 rfl (r_extract (hA143.get rfl) rfl) fun a144 hA144 _ => ?_)
    refine sq (opk_val hA144 rfl (r_assign (hA144.get rfl)) fun a145 hA145 _ => ?_)
    refine sq (opk_val hA145 rfl (r_assign (hA145.get rfl)) fun a146 hA146 _ => ?_)
    refine sq (opk_val hA146 rfl (r_assign (hA146.get rfl)) fun a147 hA147 _ => ?_)
    refine sq (opk_val hA147 rfl (r_assign (hA147.get rfl)) fun a148 hA148 _ => ?_)
    refine sq_end ?_
    have hA149 := hA148.keep [(9, Sl.v r_0_9), (10, .int .i64 r_1_10), (15, .int .i64 r_3_51), (17, .int .u64 r_0_100), (18, .int .u64 r_1_101), (19, Sl.v r_2_102), (20, .int .i64 r_3_103), (24, .int .i64 r_3_132)] ⟨rfl, rfl, rfl, rfl, rfl, rfl, rfl, rfl, trivial⟩
    refine then_normal ?_
    refine wp_seq ?_
    refine wp_region_lit ?_
    refine sq (opk_val hA149 rfl (r_move (hA149.get rfl)) fun a150 hA150 _ => ?_)
    refine sq (opk_val hA150 rfl (r_eql (hA150.get rfl) rfl) fun a151 hA151 _ => ?_)
    refine sq (opk_val hA151 rfl (r_move (hA151.get rfl)) fun a152 hA152 _ => ?_)
    refine sq (opk_gval hA152 rfl rfl (g := true) (e := (decide (r_1_10 = 0))) rfl (fun hg => r_move (hA152.get rfl)) fun a153 hA153 _ => ?_)
    refine sq (opk_gval hA153 rfl rfl (g := true) (e := (decide (r_1_10 = 0))) rfl (fun hg => r_len (cv_get (hA153.get rfl) hg) Try.underlying24) fun a154 hA154 _ => ?_)
    refine sq (opk_gval hA154 rfl rfl (g := true) (e := (decide (r_1_10 = 0))) rfl (fun hg => r_eql (cv_get (hA154.get rfl) hg) rfl) fun a155 hA155 _ => ?_)
    refine sq (opk_val hA155 rfl (r_pick_and (g := (true && ((decide (r_1_10 = 0)) == true))) (hA155.get rfl) (hA155.get rfl) (fun he => g_mkt rfl he)) fun a156 hA156 _ => ?_)
    refine sq (opk_val hA156 rfl (r_move (hA156.get rfl)) fun a157 hA157 _ => ?_)
    refine sq (opk_gval hA157 rfl rfl (g := true) (e := ((decide (r_1_10 = 0)) && (decide ((r_0_9.n : Int) = 26)))) rfl (fun hg => r_move (hA157.get rfl)) fun a158 hA158 _ => ?_)
    refine sq (opk_gval hA158 rfl rfl (g := true) (e := ((decide (r_1_10 = 0)) && (decide ((r_0_9.n : Int) = 26)))) rfl (fun hg => r_eql (cv_get (hA158.get rfl) hg) rfl) fun a159 hA159 _ => ?_)
    refine sq (opk_val hA159 rfl (r_pick_and (g := (true && (((decide (r_1_10 = 0)) && (decide ((r_0_9.n : Int) = 26))) == true))) (hA159.get rfl) (hA159.get rfl) (fun he => g_mkt rfl he)) fun a160 hA160 _ => ?_)
    refine sq (opk_val hA160 rfl (r_move (hA160.get rfl)) fun a161 hA161 _ => ?_)
    refine sq (opk_gval hA161 rfl rfl (g := true) (e := (((decide (r_1_10 = 0)) && (decide ((r_0_9.n : Int) = 26))) && (decide (r_3_51 = 9)))) rfl (fun hg => r_move (hA161.get rfl)) fun a162 hA162 _ => ?_)
    refine sq (opk_gval hA162 rfl rfl (g := true) (e := (((decide (r_1_10 = 0)) && (decide ((r_0_9.n : Int) = 26))) && (decide (r_3_51 = 9)))) rfl (fun hg => r_neq (cv_get (hA162.get rfl) hg) rfl) fun a163 hA163 _ => ?_)
    refine sq (opk_val hA163 rfl (r_pick_and (g := (true && ((((decide (r_1_10 = 0)) && (decide ((r_0_9.n : Int) = 26))) && (decide (r_3_51 = 9))) == true))) (hA163.get rfl) (hA163.get rfl) (fun he => g_mkt rfl he)) fun a164 hA164 _ => ?_)
    refine sq (opk_val hA164 rfl (r_move (hA164.get rfl)) fun a165 hA165 _ => ?_)
    refine sq (opk_gval hA165 rfl rfl (g := true) (e := ((((decide (r_1_10 = 0)) && (decide ((r_0_9.n : Int) = 26))) && (decide (r_3_51 = 9))) && (decide (r_3_103 ≠ 0)))) rfl (fun hg => r_move (hA165.get rfl)) fun a166 hA166 _ => ?_)
    refine sq (opk_gval hA166 rfl rfl (g := true) (e := ((((decide (r_1_10 = 0)) && (decide ((r_0_9.n : Int) = 26))) && (decide (r_3_51 = 9))) && (decide (r_3_103 ≠ 0)))) rfl (fun hg => r_eql (cv_get (hA166.get rfl) hg) rfl) fun a167 hA167 _ => ?_)
    refine sq (opk_val hA167 rfl (r_pick_and (g := (true && (((((decide (r_1_10 = 0)) && (decide ((r_0_9.n : Int) = 26))) && (decide (r_3_51 = 9))) && (decide (r_3_103 ≠ 0))) == true))) (hA167.get rfl) (hA167.get rfl) (fun he => g_mkt rfl he)) fun a168 hA168 _ => ?_)
    refine sq (opk_val hA168 rfl (r_move (hA168.get rfl)) fun a169 hA169 _ => ?_)
    refine sq (opk_gval hA169 rfl rfl (g := true) (e := (((((decide (r_1_10 = 0)) && (decide ((r_0_9.n : Int) = 26))) && (decide (r_3_51 = 9))) && (decide (r_3_103 ≠ 0))) && (decide (r_0_100 = 0)))) rfl (fun hg => r_move (hA169.get rfl)) fun a170 hA170 _ => ?_)
    refine sq (opk_gval hA170 rfl rfl (g := true) (e := (((((decide (r_1_10 = 0)) && (decide ((r_0_9.n : Int) = 26))) && (decide (r_3_51 = 9))) && (decide (r_3_103 ≠ 0))) && (decide (r_0_100 = 0)))) rfl (fun hg => r_eql (cv_get (hA170.get rfl) hg) rfl) fun a171 hA171 _ => ?_)
    refine sq (opk_val hA171 rfl (r_pick_and (g := (true && ((((((decide (r_1_10 = 0)) && (decide ((r_0_9.n : Int) = 26))) && (decide (r_3_51 = 9))) && (decide (r_3_103 ≠ 0))) && (decide (r_0_100 = 0))) == true))) (hA171.get rfl) (hA171.get rfl) (fun he => g_mkt rfl he)) fun a172 hA172 _ => ?_)
    refine sq (opk_val hA172 rfl (r_move (hA172.get rfl)) fun a173 hA173 _ => ?_)
    refine sq (opk_gval hA173 rfl rfl (g := true) (e := ((((((decide (r_1_10 = 0)) && (decide ((r_0_9.n : Int) = 26))) && (decide (r_3_51 = 9))) && (decide (r_3_103 ≠ 0))) && (decide (r_0_100 = 0))) && (decide (r_1_101 = 0)))) rfl (fun hg => r_move (hA173.get rfl)) fun a174 hA174 _ => ?_)
    refine sq (opk_gval hA174 rfl rfl (g := true) (e := ((((((decide (r_1_10 = 0)) && (decide ((r_0_9.n : Int) = 26))) && (decide (r_3_51 = 9))) && (decide (r_3_103 ≠ 0))) && (decide (r_0_100 = 0))) && (decide (r_1_101 = 0)))) rfl (fun hg => r_len (cv_get (hA174.get rfl) hg) Try.underlying23) fun a175 hA175 _ => ?_)
    refine sq (opk_gval hA175 rfl rfl (g := true) (e := ((((((decide (r_1_10 = 0)) && (decide ((r_0_9.n : Int) = 26))) && (decide (r_3_51 = 9))) && (decide (r_3_103 ≠ 0))) && (decide (r_0_100 = 0))) && (decide (r_1_101 = 0)))) rfl (fun hg => r_eql (cv_get (hA175.get rfl) hg) rfl) fun a176 hA176 _ => ?_)
    refine sq (opk_val hA176 rfl (r_pick_and (g := (true && (((((((decide (r_1_10 = 0)) && (decide ((r_0_9.n : Int) = 26))) && (decide (r_3_51 = 9))) && (decide (r_3_103 ≠ 0))) && (decide (r_0_100 = 0))) && (decide (r_1_101 = 0))) == true))) (hA176.get rfl) (hA176.get rfl) (fun he => g_mkt rfl he)) fun a177 hA177 _ => ?_)
    refine sq (opk_val hA177 rfl (r_move (hA177.get rfl)) fun a178 hA178 _ => ?_)
    refine sq (opk_gval hA178 rfl rfl (g := true) (e := (((((((decide (r_1_10 = 0)) && (decide ((r_0_9.n : Int) = 26))) && (decide (r_3_51 = 9))) && (decide (r_3_103 ≠ 0))) && (decide (r_0_100 = 0))) && (decide (r_1_101 = 0))) && (decide ((r_2_102.n : Int) = 0)))) rfl (fun hg => r_move (hA178.get rfl)) fun a179 hA179 _ => ?_)
    refine sq (opk_gval hA179 rfl rfl (g := true) (e := (((((((decide (r_1_10 = 0)) && (decide ((r_0_9.n : Int) = 26))) && (decide (r_3_51 = 9))) && (decide (r_3_103 ≠ 0))) && (decide (r_0_100 = 0))) && (decide (r_1_101 = 0))) && (decide ((r_2_102.n : Int) = 0)))) rfl (fun hg => r_eql (cv_get (hA179.get rfl) hg) rfl) fun a180 hA180 _ => ?_)
    refine sq (opk_val hA180 rfl (r_pick_and (g := (true && ((((((((decide (r_1_10 = 0)) && (decide ((r_0_9.n : Int) = 26))) && (decide (r_3_51 = 9))) && (decide (r_3_103 ≠ 0))) && (decide (r_0_100 = 0))) && (decide (r_1_101 = 0))) && (decide ((r_2_102.n : Int) = 0))) == true))) (hA180.get rfl) (hA180.get rfl) (fun he => g_mkt rfl he)) fun a181 hA181 _ => ?_)
    refine sq (opk_val hA181 rfl (r_move (hA181.get rfl)) fun a182 hA182 _ => ?_)
    obtain ⟨r_183, hc187, ht186⟩ := ht135
    refine sq (opk_gcall hA182 rfl rfl (g := true) (e := ((((((((decide (r_1_10 = 0)) && (decide ((r_0_9.n : Int) = 26))) && (decide (r_3_51 = 9))) && (decide (r_3_103 ≠ 0))) && (decide (r_0_100 = 0))) && (decide (r_1_101 = 0))) && (decide ((r_2_102.n : Int) = 0))) && (decide (r_3_132 = 2)))) rfl (fun hg => r_call (args := #[]) Try.func9 (by decide) rfl (map_arr ml_nil) rfl) (fun hg => hc187 ⟨⟨⟨⟨⟨⟨⟨(of_decide_eq_true (b_and_t (b_and_t (b_and_t (b_and_t (b_and_t (b_and_t (b_and_t (g_t hg)).1).1).1).1).1).1).1), (of_decide_eq_true (b_and_t (b_and_t (b_and_t (b_and_t (b_and_t (b_and_t (b_and_t (g_t hg)).1).1).1).1).1).1).2)⟩, (of_decide_eq_true (b_and_t (b_and_t (b_and_t (b_and_t (b_and_t (b_and_t (g_t hg)).1).1).1).1).1).2)⟩, (of_decide_eq_true (b_and_t (b_and_t (b_and_t (b_and_t (b_and_t (g_t hg)).1).1).1).1).2)⟩, (of_decide_eq_true (b_and_t (b_and_t (b_and_t (b_and_t (g_t hg)).1).1).1).2)⟩, (of_decide_eq_true (b_and_t (b_and_t (b_and_t (g_t hg)).1).1).2)⟩, (of_decide_eq_true (b_and_t (b_and_t (g_t hg)).1).2)⟩, (of_decide_eq_true (b_and_t (g_t hg)).2)⟩) fun a184 w185 hA184 _ hE188 => ?_)
    have hC189 : Chg [] w134 w185 := hE188
    have ht190 := ht186 w185 hE188
    refine sq (opk_val hA184 rfl (r_pick_and (g := (true && (((((((((decide (r_1_10 = 0)) && (decide ((r_0_9.n : Int) = 26))) && (decide (r_3_51 = 9))) && (decide (r_3_103 ≠ 0))) && (decide (r_0_100 = 0))) && (decide (r_1_101 = 0))) && (decide ((r_2_102.n : Int) = 0))) && (decide (r_3_132 = 2))) == true))) (hA184.get rfl) (hA184.get rfl) (fun he => g_mkt rfl he)) fun a191 hA191 _ => ?_)
    refine sq (opk_val hA191 rfl (r_assign (hA191.get rfl)) fun a192 hA192 _ => ?_)
    refine sq_end ?_
    have hA193 := hA192.keep [(8, .bool (((((((((decide (r_1_10 = 0)) && (decide ((r_0_9.n : Int) = 26))) && (decide (r_3_51 = 9))) && (decide (r_3_103 ≠ 0))) && (decide (r_0_100 = 0))) && (decide (r_1_101 = 0))) && (decide ((r_2_102.n : Int) = 0))) && (decide (r_3_132 = 2))) && r_183))] ⟨rfl, trivial⟩
    refine then_normal ?_
    refine wp_ret ?_
    exact res_all (vs := [.bool (((((((((decide (r_1_10 = 0)) && (decide ((r_0_9.n : Int) = 26))) && (decide (r_3_51 = 9))) && (decide (r_3_103 ≠ 0))) && (decide (r_0_100 = 0))) && (decide (r_1_101 = 0))) && (decide ((r_2_102.n : Int) = 0))) && (decide (r_3_132 = 2))) && r_183)]) rfl hA193 ⟨res_of_tmp hA193 rfl, trivial⟩ ht190

end Go.Proofs.Yteacalmdpoblpaa
