/-
  PRINTED BY PROGRAM: for each function its condition (vc), and that this suffices (ok).
-/
import Derived.Test.YteacalmdpoblpaaQCodecAllGT
namespace Go.Proofs.Yteacalmdpoblpaa
open Go.RowKit
set_option linter.unusedVariables false

/-- The condition of topiary/topiarylaw24.CodecAll. -/
def law24_CodecAll.vc (base_1 : Int) (target_2 : Int) (l_3 : Sl) (p_4 : Sl) (R : Value → World → Prop) (w : World) : Prop :=
CallK Try.prog 8 #[Sl.v l_3] w [] (fun v w10 => ∃ (r_8 : Bool), v = .bool r_8 ∧
(((r_8 = false) ∨ (3000 < (p_4.n : Int))) →
CallK Try.prog 9 #[] w10 [] (fun v w27 => ∃ (r_25 : Bool), v = .bool r_25 ∧
R (.bool r_25) w27)) ∧
(((r_8 = true) ∧ (¬ (3000 < (p_4.n : Int)))) →
CallK Try.prog 11 #[Sl.v l_3] w10 [] (fun v w40 => ∃ (r_38 : Sl), v = Sl.v r_38 ∧
CallK Try.prog 10 #[.int .u64 base_1, .int .u64 target_2, Sl.v r_38] w40 [] (fun v w49 => ∃ (r_0_46 : Sl) (r_1_47 : Int), v = .tuple #[Sl.v r_0_46, .int .i64 r_1_47] ∧
CallK Try.prog 12 #[.int .u64 base_1, .int .u64 target_2, Sl.v l_3] w49 [] (fun v w67 => ∃ (r_0_64 : Sl) (r_1_65 : Int), v = .tuple #[Sl.v r_0_64, .int .i64 r_1_65] ∧
CallK Try.prog 14 #[Sl.v p_4] w67 [] (fun v w82 => ∃ (r_80 : Sl), v = Sl.v r_80 ∧
CallK Try.prog 13 #[Sl.v r_80] w82 [] (fun v w93 => ∃ (r_0_88 : Int) (r_1_89 : Int) (r_2_90 : Sl) (r_3_91 : Int), v = .tuple #[.int .u64 r_0_88, .int .u64 r_1_89, Sl.v r_2_90, .int .i64 r_3_91] ∧
CallK Try.prog 15 #[Sl.v p_4] w93 [] (fun v w115 => ∃ (r_0_110 : Int) (r_1_111 : Int) (r_2_112 : Sl) (r_3_113 : Int), v = .tuple #[.int .u64 r_0_110, .int .u64 r_1_111, Sl.v r_2_112, .int .i64 r_3_113] ∧
∃ s_132 : Str, ((convert 24 9 (Sl.v r_0_46)).run Try.prog w115 = .ok (.string (Bs s_132)) w115) ∧
∃ s_137 : Str, ((convert 24 9 (Sl.v r_0_64)).run Try.prog w115 = .ok (.string (Bs s_137)) w115) ∧
∃ (r_160 : Bool), ((((((s_132 = s_137) ∧ (r_1_47 = r_1_65)) ∧ (r_0_88 = r_0_110)) ∧ (r_1_89 = r_1_111))) → Calls Try.prog 16 #[Sl.v r_2_90, Sl.v r_2_112] w115 (Ret fun v w' => Ext w115 w' ∧ v = .bool r_160)) ∧
(∀ w162 : World, Ext w115 w162 →
∃ (r_175 : Bool), ((((((((s_132 = s_137) ∧ (r_1_47 = r_1_65)) ∧ (r_0_88 = r_0_110)) ∧ (r_1_89 = r_1_111)) ∧ (r_160 = true)) ∧ (r_3_91 = r_3_113))) → Calls Try.prog 9 #[] w162 (Ret fun v w' => Ext w162 w' ∧ v = .bool r_175)) ∧
(∀ w177 : World, Ext w162 w177 →
R (.bool (((((((decide (s_132 = s_137)) && (decide (r_1_47 = r_1_65))) && (decide (r_0_88 = r_0_110))) && (decide (r_1_89 = r_1_111))) && r_160) && (decide (r_3_91 = r_3_113))) && r_175)) w177))))))))))
set_option maxHeartbeats 1000000 in
set_option maxRecDepth 10000 in
theorem law24_CodecAll.ok (base_1 : Int) (target_2 : Int) (l_3 : Sl) (p_4 : Sl) {R : Value → World → Prop} {w : World} (ht0 : law24_CodecAll.vc base_1 target_2 l_3 p_4 R w) : Calls Try.prog 3 #[.int .u64 base_1, .int .u64 target_2, Sl.v l_3, Sl.v p_4] w (Ret R) := by
  refine enter [.int .u64 base_1, .int .u64 target_2, Sl.v l_3, Sl.v p_4] Try.func3 rfl Try.ntmps3 rfl ?_
  intro a0 hA0
  unfold law24_CodecAll.vc at ht0
  refine wp_seq ?_
  refine wp_region_lit ?_
  refine sq (opk_val hA0 rfl (r_assign rfl) fun a5 hA5 _ => ?_)
  refine sq_end ?_
  have hA6 := hA5.keep [(0, .int .u64 base_1), (1, .int .u64 target_2), (2, Sl.v l_3), (3, Sl.v p_4)] ⟨rfl, rfl, rfl, rfl, trivial⟩
  refine then_normal ?_
  refine wp_seq ?_
  refine wp_seq ?_
  refine wp_region_lit ?_
  refine sq (opk_val hA6 rfl (r_move (hA6.get rfl)) fun a7 hA7 _ => ?_)
  refine sq (opk_call hA7 rfl (r_call (args := #[Sl.v l_3]) Try.func8 (by decide) rfl (map_arr (ml_cons (hA7.get rfl) ml_nil)) rfl) ht0 fun a9 v15 w10 hA9 _ hn12 hz13 hK14 => ?_)
  obtain ⟨r_8, rfl, ht11⟩ := hK14
  refine sq (opk_val hA9 rfl (r_not (hA9.get rfl)) fun a16 hA16 _ => ?_)
  refine sq (opk_val hA16 rfl (r_move (hA16.get rfl)) fun a17 hA17 _ => ?_)
  refine sq (opk_gval hA17 rfl rfl (g := true) (e := (!r_8)) rfl (fun hg => r_move (hA17.get rfl)) fun a18 hA18 _ => ?_)
  refine sq (opk_gval hA18 rfl rfl (g := true) (e := (!r_8)) rfl (fun hg => r_len (cv_get (hA18.get rfl) hg) Try.underlying24) fun a19 hA19 _ => ?_)
  refine sq (opk_gval hA19 rfl rfl (g := true) (e := (!r_8)) rfl (fun hg => r_gtr (cv_get (hA19.get rfl) hg) rfl) fun a20 hA20 _ => ?_)
  refine sq (opk_val hA20 rfl (r_pick_or (g := (true && ((!r_8) == false))) (hA20.get rfl) (hA20.get rfl) (fun he => g_mkf rfl he)) fun a21 hA21 _ => ?_)
  refine sq_end ?_
  have hA22 := hA21.keep [(0, .int .u64 base_1), (1, .int .u64 target_2), (2, Sl.v l_3), (3, Sl.v p_4), (28, .bool ((!r_8) || (decide (3000 < (p_4.n : Int)))))] ⟨rfl, rfl, rfl, rfl, rfl, trivial⟩
  refine then_normal ?_
  refine wp_cond_split (hA22.get rfl) (fun hc => ?_) (fun hc => ?_)
  · have ht23 := ht11.1 ((b_or_t hc).imp (fun h => (b_not_t h)) (fun h => (of_decide_eq_true h)))
    clear hc
    refine wp_seq ?_
    refine wp_region_lit ?_
    refine sq (opk_call hA22 rfl (r_call (args := #[]) Try.func9 (by decide) rfl (map_arr ml_nil) rfl) ht23 fun a26 v32 w27 hA26 _ hn29 hz30 hK31 => ?_)
    obtain ⟨r_25, rfl, ht28⟩ := hK31
    refine sq (opk_val hA26 rfl (r_assign (hA26.get rfl)) fun a33 hA33 _ => ?_)
    refine sq_end ?_
    have hA34 := hA33.keep [(8, .bool r_25)] ⟨rfl, trivial⟩
    refine then_normal ?_
    refine wp_ret ?_
    refine then_ret ?_
    exact res_all (vs := [.bool r_25]) rfl hA34 ⟨res_of_tmp hA34 rfl, trivial⟩ ht28
  · have ht24 := ht11.2 ⟨(b_not_f (b_or_f hc).1), (of_decide_eq_false (b_or_f hc).2)⟩
    clear hc
    refine wp_skip ?_
    refine then_normal ?_
    refine wp_seq ?_
    refine wp_region_lit ?_
    refine sq (opk_val hA22 rfl (r_move (hA22.get rfl)) fun a35 hA35 _ => ?_)
    refine sq (opk_val hA35 rfl (r_move (hA35.get rfl)) fun a36 hA36 _ => ?_)
    refine sq (opk_val hA36 rfl (r_move (hA36.get rfl)) fun a37 hA37 _ => ?_)
    refine sq (opk_call hA37 rfl (r_call (args := #[Sl.v l_3]) Try.func11 (by decide) rfl (map_arr (ml_cons (hA37.get rfl) ml_nil)) rfl) ht24 fun a39 v45 w40 hA39 _ hn42 hz43 hK44 => ?_)
    obtain ⟨r_38, rfl, ht41⟩ := hK44
    refine sq (opk_call hA39 rfl (r_call (args := #[.int .u64 base_1, .int .u64 target_2, Sl.v r_38]) Try.func10 (by decide) rfl (map_arr (ml_cons (hA39.get rfl) (ml_cons (hA39.get rfl) (ml_cons (hA39.get rfl) ml_nil)))) rfl) ht41 fun a48 v54 w49 hA48 _ hn51 hz52 hK53 => ?_)
    obtain ⟨r_0_46, r_1_47, rfl, ht50⟩ := hK53
    refine sq (opk_val hA48 rfl (r_move (hA48.get rfl)) fun a55 hA55 _ => ?_)
    refine sq (opk_val hA55 rfl (r_extract (hA55.get rfl) rfl) fun a56 hA56 _ => ?_)
    refine sq (opk_val hA56 rfl (r_extract (hA56.get rfl) rfl) fun a57 hA57 _ => ?_)
    refine sq (opk_val hA57 rfl (r_assign (hA57.get rfl)) fun a58 hA58 _ => ?_)
    refine sq (opk_val hA58 rfl (r_assign (hA58.get rfl)) fun a59 hA59 _ => ?_)
    refine sq_end ?_
    have hA60 := hA59.keep [(0, .int .u64 base_1), (1, .int .u64 target_2), (2, Sl.v l_3), (3, Sl.v p_4), (9, Sl.v r_0_46), (10, .int .i64 r_1_47)] ⟨rfl, rfl, rfl, rfl, rfl, rfl, trivial⟩
    refine then_normal ?_
    refine wp_seq ?_
    refine wp_region_lit ?_
    refine sq (opk_val hA60 rfl (r_move (hA60.get rfl)) fun a61 hA61 _ => ?_)
    refine sq (opk_val hA61 rfl (r_move (hA61.get rfl)) fun a62 hA62 _ => ?_)
    refine sq (opk_val hA62 rfl (r_move (hA62.get rfl)) fun a63 hA63 _ => ?_)
    refine sq (opk_call hA63 rfl (r_call (args := #[.int .u64 base_1, .int .u64 target_2, Sl.v l_3]) Try.func12 (by decide) rfl (map_arr (ml_cons (hA63.get rfl) (ml_cons (hA63.get rfl) (ml_cons (hA63.get rfl) ml_nil)))) rfl) ht50 fun a66 v72 w67 hA66 _ hn69 hz70 hK71 => ?_)
    obtain ⟨r_0_64, r_1_65, rfl, ht68⟩ := hK71
    refine sq (opk_val hA66 rfl (r_move (hA66.get rfl)) fun a73 hA73 _ => ?_)
    refine sq (opk_val hA73 rfl (r_extract (hA73.get rfl) rfl) fun a74 hA74 _ => ?_)
    refine sq (opk_val hA74 rfl (r_extract (hA74.get rfl) rfl) fun a75 hA75 _ => ?_)
    refine sq (opk_val hA75 rfl (r_assign (hA75.get rfl)) fun a76 hA76 _ => ?_)
    refine sq (opk_val hA76 rfl (r_assign (hA76.get rfl)) fun a77 hA77 _ => ?_)
    refine sq_end ?_
    have hA78 := hA77.keep [(3, Sl.v p_4), (9, Sl.v r_0_46), (10, .int .i64 r_1_47), (11, Sl.v r_0_64), (12, .int .i64 r_1_65)] ⟨rfl, rfl, rfl, rfl, rfl, trivial⟩
    refine then_normal ?_
    refine wp_seq ?_
    refine wp_region_lit ?_
    refine sq (opk_val hA78 rfl (r_move (hA78.get rfl)) fun a79 hA79 _ => ?_)
    refine sq (opk_call hA79 rfl (r_call (args := #[Sl.v p_4]) Try.func14 (by decide) rfl (map_arr (ml_cons (hA79.get rfl) ml_nil)) rfl) ht68 fun a81 v87 w82 hA81 _ hn84 hz85 hK86 => ?_)
    obtain ⟨r_80, rfl, ht83⟩ := hK86
    refine sq (opk_call hA81 rfl (r_call (args := #[Sl.v r_80]) Try.func13 (by decide) rfl (map_arr (ml_cons (hA81.get rfl) ml_nil)) rfl) ht83 fun a92 v98 w93 hA92 _ hn95 hz96 hK97 => ?_)
    obtain ⟨r_0_88, r_1_89, r_2_90, r_3_91, rfl, ht94⟩ := hK97
    refine sq (opk_val hA92 rfl (r_move (hA92.get rfl)) fun a99 hA99 _ => ?_)
    refine sq (opk_val hA99 rfl (r_extract (hA99.get rfl) rfl) fun a100 hA100 _ => ?_)
    refine sq (opk_val hA100 rfl (r_extract (hA100.get rfl) rfl) fun a101 hA101 _ => ?_)
    refine sq (opk_val hA101 rfl (r_extract (hA101.get rfl) rfl) fun a102 hA102 _ => ?_)
    refine sq (opk_val hA102 rfl (r_extract (hA102.get rfl) rfl) fun a103 hA103 _ => ?_)
    refine sq (opk_val hA103 rfl (r_assign (hA103.get rfl)) fun a104 hA104 _ => ?_)
    refine sq (opk_val hA104 rfl (r_assign (hA104.get rfl)) fun a105 hA105 _ => ?_)
    refine sq (opk_val hA105 rfl (r_assign (hA105.get rfl)) fun a106 hA106 _ => ?_)
    refine sq (opk_val hA106 rfl (r_assign (hA106.get rfl)) fun a107 hA107 _ => ?_)
    refine sq_end ?_
    have hA108 := hA107.keep [(3, Sl.v p_4), (9, Sl.v r_0_46), (10, .int .i64 r_1_47), (11, Sl.v r_0_64), (12, .int .i64 r_1_65), (13, .int .u64 r_0_88), (14, .int .u64 r_1_89), (15, Sl.v r_2_90), (16, .int .i64 r_3_91)] ⟨rfl, rfl, rfl, rfl, rfl, rfl, rfl, rfl, rfl, trivial⟩
    refine then_normal ?_
    refine wp_seq ?_
    refine wp_region_lit ?_
    refine sq (opk_val hA108 rfl (r_move (hA108.get rfl)) fun a109 hA109 _ => ?_)
    refine sq (opk_call hA109 rfl (r_call (args := #[Sl.v p_4]) Try.func15 (by decide) rfl (map_arr (ml_cons (hA109.get rfl) ml_nil)) rfl) ht94 fun a114 v120 w115 hA114 _ hn117 hz118 hK119 => ?_)
    obtain ⟨r_0_110, r_1_111, r_2_112, r_3_113, rfl, ht116⟩ := hK119
    refine sq (opk_val hA114 rfl (r_move (hA114.get rfl)) fun a121 hA121 _ => ?_)
    refine sq (opk_val hA121 rfl (r_extract (hA121.get rfl) rfl) fun a122 hA122 _ => ?_)
    refine sq (opk_val hA122 rfl (r_extract (hA122.get rfl) rfl) fun a123 hA123 _ => ?_)
    refine sq (opk_val hA123 rfl (r_extract (hA123.get rfl) rfl) fun a124 hA124 _ => ?_)
    refine sq (opk_val hA124 rfl (r_extract (hA124.get rfl) rfl) fun a125 hA125 _ => ?_)
    refine sq (opk_val hA125 rfl (r_assign (hA125.get rfl)) fun a126 hA126 _ => ?_)
    refine sq (opk_val hA126 rfl (r_assign (hA126.get rfl)) fun a127 hA127 _ => ?_)
    refine sq (opk_val hA127 rfl (r_assign (hA127.get rfl)) fun a128 hA128 _ => ?_)
    refine sq (opk_val hA128 rfl (r_assign (hA128.get rfl)) fun a129 hA129 _ => ?_)
    refine sq_end ?_
    have hA130 := hA129.keep [(9, Sl.v r_0_46), (10, .int .i64 r_1_47), (11, Sl.v r_0_64), (12, .int .i64 r_1_65), (13, .int .u64 r_0_88), (14, .int .u64 r_1_89), (15, Sl.v r_2_90), (16, .int .i64 r_3_91), (17, .int .u64 r_0_110), (18, .int .u64 r_1_111), (19, Sl.v r_2_112), (20, .int .i64 r_3_113)] ⟨rfl, rfl, rfl, rfl, rfl, rfl, rfl, rfl, rfl, rfl, rfl, rfl, trivial⟩
    refine then_normal ?_
    refine wp_seq ?_
    refine wp_region_lit ?_
    refine sq (opk_val hA130 rfl (r_move (hA130.get rfl)) fun a131 hA131 _ => ?_)
    obtain ⟨s_132, hx133, ht134⟩ := ht116
    refine sq (opk_val hA131 rfl (r_convR (hA131.get rfl) hx133) fun a135 hA135 _ => ?_)
    refine sq (opk_val hA135 rfl (r_move (hA135.get rfl)) fun a136 hA136 _ => ?_)
    obtain ⟨s_137, hx138, ht139⟩ := ht134
    refine sq (opk_val hA136 rfl (r_convR (hA136.get rfl) hx138) fun a140 hA140 _ => ?_)
    refine sq (opk_val hA140 rfl (r_seql (hA140.get rfl) (hA140.get rfl)) fun a141 hA141 _ => ?_)
    refine sq (opk_val hA141 rfl (r_move (hA141.get rfl)) fun a142 hA142 _ => ?_)
    refine sq (opk_gval hA142 rfl rfl (g := true) (e := (decide (s_132 = s_137))) rfl (fun hg => r_move (hA142.get rfl)) fun a143 hA143 _ => ?_)
    refine sq (opk_gval hA143 rfl rfl (g := true) (e := (decide (s_132 = s_137))) rfl (fun hg => r_move (hA143.get rfl)) fun a144 hA144 _ => ?_)
    refine sq (opk_gval hA144 rfl rfl (g := true) (e := (decide (s_132 = s_137))) rfl (fun hg => r_eql (cv_get (hA144.get rfl) hg) (cv_get (hA144.get rfl) hg)) fun a145 hA145 _ => ?_)
    refine sq (opk_val hA145 rfl (r_pick_and (g := (true && ((decide (s_132 = s_137)) == true))) (hA145.get rfl) (hA145.get rfl) (fun he => g_mkt rfl he)) fun a146 hA146 _ => ?_)
    refine sq (opk_val hA146 rfl (r_move (hA146.get rfl)) fun a147 hA147 _ => ?_)
    refine sq (opk_gval hA147 rfl rfl (g := true) (e := ((decide (s_132 = s_137)) && (decide (r_1_47 = r_1_65)))) rfl (fun hg => r_move (hA147.get rfl)) fun a148 hA148 _ => ?_)
    refine sq (opk_gval hA148 rfl rfl (g := true) (e := ((decide (s_132 = s_137)) && (decide (r_1_47 = r_1_65)))) rfl (fun hg => r_move (hA148.get rfl)) fun a149 hA149 _ => ?_)
    refine sq (opk_gval hA149 rfl rfl (g := true) (e := ((decide (s_132 = s_137)) && (decide (r_1_47 = r_1_65)))) rfl (fun hg => r_eql (cv_get (hA149.get rfl) hg) (cv_get (hA149.get rfl) hg)) fun a150 hA150 _ => ?_)
    refine sq (opk_val hA150 rfl (r_pick_and (g := (true && (((decide (s_132 = s_137)) && (decide (r_1_47 = r_1_65))) == true))) (hA150.get rfl) (hA150.get rfl) (fun he => g_mkt rfl he)) fun a151 hA151 _ => ?_)
    refine sq (opk_val hA151 rfl (r_move (hA151.get rfl)) fun a152 hA152 _ => ?_)
    refine sq (opk_gval hA152 rfl rfl (g := true) (e := (((decide (s_132 = s_137)) && (decide (r_1_47 = r_1_65))) && (decide (r_0_88 = r_0_110)))) rfl (fun hg => r_move (hA152.get rfl)) fun a153 hA153 _ => ?_)
    refine sq (opk_gval hA153 rfl rfl (g := true) (e := (((decide (s_132 = s_137)) && (decide (r_1_47 = r_1_65))) && (decide (r_0_88 = r_0_110)))) rfl (fun hg => r_move (hA153.get rfl)) fun a154 hA154 _ => ?_)
    refine sq (opk_gval hA154 rfl rfl (g := true) (e := (((decide (s_132 = s_137)) && (decide (r_1_47 = r_1_65))) && (decide (r_0_88 = r_0_110)))) rfl (fun hg => r_eql (cv_get (hA154.get rfl) hg) (cv_get (hA154.get rfl) hg)) fun a155 hA155 _ => ?_)
    refine sq (opk_val hA155 rfl (r_pick_and (g := (true && ((((decide (s_132 = s_137)) && (decide (r_1_47 = r_1_65))) && (decide (r_0_88 = r_0_110))) == true))) (hA155.get rfl) (hA155.get rfl) (fun he => g_mkt rfl he)) fun a156 hA156 _ => ?_)
    refine sq (opk_val hA156 rfl (r_move (hA156.get rfl)) fun a157 hA157 _ => ?_)
    refine sq (opk_gval hA157 rfl rfl (g := true) (e := ((((decide (s_132 = s_137)) && (decide (r_1_47 = r_1_65))) && (decide (r_0_88 = r_0_110))) && (decide (r_1_89 = r_1_111)))) rfl (fun hg => r_move (hA157.get rfl)) fun a158 hA158 _ => ?_)
    refine sq (opk_gval hA158 rfl rfl (g := true) (e := ((((decide (s_132 = s_137)) && (decide (r_1_47 = r_1_65))) && (decide (r_0_88 = r_0_110))) && (decide (r_1_89 = r_1_111)))) rfl (fun hg => r_move (hA158.get rfl)) fun a159 hA159 _ => ?_)
    obtain ⟨r_160, hc164, ht163⟩ := ht139
    refine sq (opk_gcall hA159 rfl rfl (g := true) (e := ((((decide (s_132 = s_137)) && (decide (r_1_47 = r_1_65))) && (decide (r_0_88 = r_0_110))) && (decide (r_1_89 = r_1_111)))) rfl (fun hg => r_call (args := #[Sl.v r_2_90, Sl.v r_2_112]) Try.func16 (by decide) rfl (map_arr (ml_cons (cv_get (hA159.get rfl) hg) (ml_cons (cv_get (hA159.get rfl) hg) ml_nil))) rfl) (fun hg => hc164 ⟨⟨⟨(of_decide_eq_true (b_and_t (b_and_t (b_and_t (g_t hg)).1).1).1), (of_decide_eq_true (b_and_t (b_and_t (b_and_t (g_t hg)).1).1).2)⟩, (of_decide_eq_true (b_and_t (b_and_t (g_t hg)).1).2)⟩, (of_decide_eq_true (b_and_t (g_t hg)).2)⟩) fun a161 w162 hA161 _ hE165 => ?_)
    have hC166 : Chg [] w115 w162 := hE165
    have ht167 := ht163 w162 hE165
    refine sq (opk_val hA161 rfl (r_pick_and (g := (true && (((((decide (s_132 = s_137)) && (decide (r_1_47 = r_1_65))) && (decide (r_0_88 = r_0_110))) && (decide (r_1_89 = r_1_111))) == true))) (hA161.get rfl) (hA161.get rfl) (fun he => g_mkt rfl he)) fun a168 hA168 _ => ?_)
    refine sq (opk_val hA168 rfl (r_move (hA168.get rfl)) fun a169 hA169 _ => ?_)
    refine sq (opk_gval hA169 rfl rfl (g := true) (e := (((((decide (s_132 = s_137)) && (decide (r_1_47 = r_1_65))) && (decide (r_0_88 = r_0_110))) && (decide (r_1_89 = r_1_111))) && r_160)) rfl (fun hg => r_move (hA169.get rfl)) fun a170 hA170 _ => ?_)
    refine sq (opk_gval hA170 rfl rfl (g := true) (e := (((((decide (s_132 = s_137)) && (decide (r_1_47 = r_1_65))) && (decide (r_0_88 = r_0_110))) && (decide (r_1_89 = r_1_111))) && r_160)) rfl (fun hg => r_move (hA170.get rfl)) fun a171 hA171 _ => ?_)
    refine sq (opk_gval hA171 rfl rfl (g := true) (e := (((((decide (s_132 = s_137)) && (decide (r_1_47 = r_1_65))) && (decide (r_0_88 = r_0_110))) && (decide (r_1_89 = r_1_111))) && r_160)) rfl (fun hg => r_eql (cv_get (hA171.get rfl) hg) (cv_get (hA171.get rfl) hg)) fun a172 hA172 _ => ?_)
    refine sq (opk_val hA172 rfl (r_pick_and (g := (true && ((((((decide (s_132 = s_137)) && (decide (r_1_47 = r_1_65))) && (decide (r_0_88 = r_0_110))) && (decide (r_1_89 = r_1_111))) && r_160) == true))) (hA172.get rfl) (hA172.get rfl) (fun he => g_mkt rfl he)) fun a173 hA173 _ => ?_)
    refine sq (opk_val hA173 rfl (r_move (hA173.get rfl)) fun a174 hA174 _ => ?_)
    obtain ⟨r_175, hc179, ht178⟩ := ht167
    refine sq (opk_gcall hA174 rfl rfl (g := true) (e := ((((((decide (s_132 = s_137)) && (decide (r_1_47 = r_1_65))) && (decide (r_0_88 = r_0_110))) && (decide (r_1_89 = r_1_111))) && r_160) && (decide (r_3_91 = r_3_113)))) rfl (fun hg => r_call (args := #[]) Try.func9 (by decide) rfl (map_arr ml_nil) rfl) (fun hg => hc179 ⟨⟨⟨⟨⟨(of_decide_eq_true (b_and_t (b_and_t (b_and_t (b_and_t (b_and_t (g_t hg)).1).1).1).1).1), (of_decide_eq_true (b_and_t (b_and_t (b_and_t (b_and_t (b_and_t (g_t hg)).1).1).1).1).2)⟩, (of_decide_eq_true (b_and_t (b_and_t (b_and_t (b_and_t (g_t hg)).1).1).1).2)⟩, (of_decide_eq_true (b_and_t (b_and_t (b_and_t (g_t hg)).1).1).2)⟩, (b_and_t (b_and_t (g_t hg)).1).2⟩, (of_decide_eq_true (b_and_t (g_t hg)).2)⟩) fun a176 w177 hA176 _ hE180 => ?_)
    have hC181 : Chg [] w162 w177 := hE180
    have ht182 := ht178 w177 hE180
    refine sq (opk_val hA176 rfl (r_pick_and (g := (true && (((((((decide (s_132 = s_137)) && (decide (r_1_47 = r_1_65))) && (decide (r_0_88 = r_0_110))) && (decide (r_1_89 = r_1_111))) && r_160) && (decide (r_3_91 = r_3_113))) == true))) (hA176.get rfl) (hA176.get rfl) (fun he => g_mkt rfl he)) fun a183 hA183 _ => ?_)
    refine sq (opk_val hA183 rfl (r_assign (hA183.get rfl)) fun a184 hA184 _ => ?_)
    refine sq_end ?_
    have hA185 := hA184.keep [(8, .bool (((((((decide (s_132 = s_137)) && (decide (r_1_47 = r_1_65))) && (decide (r_0_88 = r_0_110))) && (decide (r_1_89 = r_1_111))) && r_160) && (decide (r_3_91 = r_3_113))) && r_175))] ⟨rfl, trivial⟩
    refine then_normal ?_
    refine wp_ret ?_
    exact res_all (vs := [.bool (((((((decide (s_132 = s_137)) && (decide (r_1_47 = r_1_65))) && (decide (r_0_88 = r_0_110))) && (decide (r_1_89 = r_1_111))) && r_160) && (decide (r_3_91 = r_3_113))) && r_175)]) rfl hA185 ⟨res_of_tmp hA185 rfl, trivial⟩ ht182

end Go.Proofs.Yteacalmdpoblpaa
