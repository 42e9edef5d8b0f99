/-
  PRINTED BY PROGRAM: for each function its condition (vc), and that this suffices (ok).
-/
import Derived.Test.YteacalmdpoblpaaQCodecBackGT
namespace Go.Proofs.Yteacalmdpoblpaa
open Go.RowKit
set_option linter.unusedVariables false

/-- The condition of topiary/topiarylaw24.CodecBack. -/
def law24_CodecBack.vc (base_1 : Int) (target_2 : Int) (l_3 : Sl) (p_4 : Sl) (R : Value → World → Prop) (w : World) : Prop :=
CallK Try.prog 8 #[Sl.v l_3] w [] (fun v w10 => ∃ (r_8 : Bool), v = .bool r_8 ∧
(((r_8 = false) ∨ (3000 < (p_4.n : Int))) →
CallK Try.prog 9 #[] w10 [] (fun v w27 => ∃ (r_25 : Bool), v = .bool r_25 ∧
R (.bool r_25) w27)) ∧
(((r_8 = true) ∧ (¬ (3000 < (p_4.n : Int)))) →
CallK Try.prog 11 #[Sl.v l_3] w10 [] (fun v w40 => ∃ (r_38 : Sl), v = Sl.v r_38 ∧
CallK Try.prog 10 #[.int .u64 base_1, .int .u64 target_2, Sl.v r_38] w40 [] (fun v w49 => ∃ (r_0_46 : Sl) (r_1_47 : Int), v = .tuple #[Sl.v r_0_46, .int .i64 r_1_47] ∧
∃ J_119 : World → Prop,
(((r_1_47 = 0) →
CallK Try.prog 13 #[Sl.v r_0_46] w49 [] (fun v w130 => ∃ (r_0_125 : Int) (r_1_126 : Int) (r_2_127 : Sl) (r_3_128 : Int), v = .tuple #[.int .u64 r_0_125, .int .u64 r_1_126, Sl.v r_2_127, .int .i64 r_3_128] ∧
∃ (r_161 : Bool), (((((¬ (r_3_128 ≠ 0)) ∧ (¬ (r_0_125 ≠ base_1))) ∧ (¬ (r_1_126 ≠ target_2)))) → Calls Try.prog 16 #[Sl.v r_2_127, Sl.v l_3] w130 (Ret fun v w' => Ext w130 w' ∧ v = .bool r_161)) ∧
(∀ w163 : World, Ext w130 w163 →
(((((r_3_128 ≠ 0) ∨ (r_0_125 ≠ base_1)) ∨ (r_1_126 ≠ target_2)) ∨ (r_161 = false)) →
R (.bool false) w163) ∧
(((((¬ (r_3_128 ≠ 0)) ∧ (¬ (r_0_125 ≠ base_1))) ∧ (¬ (r_1_126 ≠ target_2))) ∧ (r_161 = true)) →
J_119 w163)))) ∧
((¬ (r_1_47 = 0)) →
J_119 w49)) ∧
(∀ (w118 : World), J_119 w118 →
CallK Try.prog 14 #[Sl.v p_4] w118 [] (fun v w183 => ∃ (r_181 : Sl), v = Sl.v r_181 ∧
CallK Try.prog 13 #[Sl.v r_181] w183 [] (fun v w194 => ∃ (r_0_189 : Int) (r_1_190 : Int) (r_2_191 : Sl) (r_3_192 : Int), v = .tuple #[.int .u64 r_0_189, .int .u64 r_1_190, Sl.v r_2_191, .int .i64 r_3_192] ∧
∃ J_254 : World → Prop,
(((r_3_192 = 0) →
CallK Try.prog 10 #[.int .u64 r_0_189, .int .u64 r_1_190, Sl.v r_2_191] w194 [] (fun v w265 => ∃ (r_0_262 : Sl) (r_1_263 : Int), v = .tuple #[Sl.v r_0_262, .int .i64 r_1_263] ∧
∃ s_281 : Str, (((¬ (r_1_263 ≠ 0))) → (convert 24 9 (Sl.v r_0_262)).run Try.prog w265 = .ok (.string (Bs s_281)) w265) ∧
∃ s_286 : Str, (((¬ (r_1_263 ≠ 0))) → (convert 24 9 (Sl.v p_4)).run Try.prog w265 = .ok (.string (Bs s_286)) w265) ∧
(((r_1_263 ≠ 0) ∨ (s_281 ≠ s_286)) →
R (.bool false) w265) ∧
(((¬ (r_1_263 ≠ 0)) ∧ (¬ (s_281 ≠ s_286))) →
J_254 w265))) ∧
((¬ (r_3_192 = 0)) →
J_254 w194)) ∧
(∀ (w253 : World), J_254 w253 →
CallK Try.prog 9 #[] w253 [] (fun v w303 => ∃ (r_301 : Bool), v = .bool r_301 ∧
R (.bool r_301) w303)))))))))
set_option maxHeartbeats 1000000 in
set_option maxRecDepth 10000 in
theorem law24_CodecBack.ok (base_1 : Int) (target_2 : Int) (l_3 : Sl) (p_4 : Sl) {R : Value → World → Prop} {w : World} (ht0 : law24_CodecBack.vc base_1 target_2 l_3 p_4 R w) : Calls Try.prog 4 #[.int .u64 base_1, .int .u64 target_2, Sl.v l_3, Sl.v p_4] w (Ret R) := by
  refine enter [.int .u64 base_1, .int .u64 target_2, Sl.v l_3, Sl.v p_4] Try.func4 rfl Try.ntmps4 rfl ?_
  intro a0 hA0
  unfold law24_CodecBack.vc at ht0
  refine wp_seq ?_
  refine wp_region_lit ?_
  refine sq (opk_val hA0 rfl (r_assign rfl) fun a5 hA5 _ => ?_)
  refine sq_end ?_
  have hA6 := hA5.keep [(0, .int .u64 base_1), (1, .int .u64 target_2), (2, Sl.v l_3), (3, Sl.v p_4)] ⟨rfl, rfl, rfl, rfl, trivial⟩
  refine then_normal ?_
  refine wp_seq ?_
  refine wp_seq ?_
  refine wp_region_lit ?_
  refine sq (opk_val hA6 rfl (r_move (hA6.get rfl)) fun a7 hA7 _ => ?_)
  refine sq (opk_call hA7 rfl (r_call (args := #[Sl.v l_3]) Try.func8 (by decide) rfl (map_arr (ml_cons (hA7.get rfl) ml_nil)) rfl) ht0 fun a9 v15 w10 hA9 _ hn12 hz13 hK14 => ?_)
  obtain ⟨r_8, rfl, ht11⟩ := hK14
  refine sq (opk_val hA9 rfl (r_not (hA9.get rfl)) fun a16 hA16 _ => ?_)
  refine sq (opk_val hA16 rfl (r_move (hA16.get rfl)) fun a17 hA17 _ => ?_)
  refine sq (opk_gval hA17 rfl rfl (g := true) (e := (!r_8)) rfl (fun hg => r_move (hA17.get rfl)) fun a18 hA18 _ => ?_)
  refine sq (opk_gval hA18 rfl rfl (g := true) (e := (!r_8)) rfl (fun hg => r_len (cv_get (hA18.get rfl) hg) Try.underlying24) fun a19 hA19 _ => ?_)
  refine sq (opk_gval hA19 rfl rfl (g := true) (e := (!r_8)) rfl (fun hg => r_gtr (cv_get (hA19.get rfl) hg) rfl) fun a20 hA20 _ => ?_)
  refine sq (opk_val hA20 rfl (r_pick_or (g := (true && ((!r_8) == false))) (hA20.get rfl) (hA20.get rfl) (fun he => g_mkf rfl he)) fun a21 hA21 _ => ?_)
  refine sq_end ?_
  have hA22 := hA21.keep [(0, .int .u64 base_1), (1, .int .u64 target_2), (2, Sl.v l_3), (3, Sl.v p_4), (28, .bool ((!r_8) || (decide (3000 < (p_4.n : Int)))))] ⟨rfl, rfl, rfl, rfl, rfl, trivial⟩
  refine then_normal ?_
  refine wp_cond_split (hA22.get rfl) (fun hc => ?_) (fun hc => ?_)
  · have ht23 := ht11.1 ((b_or_t hc).imp (fun h => (b_not_t h)) (fun h => (of_decide_eq_true h)))
    clear hc
    refine wp_seq ?_
    refine wp_region_lit ?_
    refine sq (opk_call hA22 rfl (r_call (args := #[]) Try.func9 (by decide) rfl (map_arr ml_nil) rfl) ht23 fun a26 v32 w27 hA26 _ hn29 hz30 hK31 => ?_)
    obtain ⟨r_25, rfl, ht28⟩ := hK31
    refine sq (opk_val hA26 rfl (r_assign (hA26.get rfl)) fun a33 hA33 _ => ?_)
    refine sq_end ?_
    have hA34 := hA33.keep [(8, .bool r_25)] ⟨rfl, trivial⟩
    refine then_normal ?_
    refine wp_ret ?_
    refine then_ret ?_
    exact res_all (vs := [.bool r_25]) rfl hA34 ⟨res_of_tmp hA34 rfl, trivial⟩ ht28
  · have ht24 := ht11.2 ⟨(b_not_f (b_or_f hc).1), (of_decide_eq_false (b_or_f hc).2)⟩
    clear hc
    refine wp_skip ?_
    refine then_normal ?_
    refine wp_seq ?_
    refine wp_seq ?_
    refine wp_region_lit ?_
    refine sq (opk_val hA22 rfl (r_move (hA22.get rfl)) fun a35 hA35 _ => ?_)
    refine sq (opk_val hA35 rfl (r_move (hA35.get rfl)) fun a36 hA36 _ => ?_)
    refine sq (opk_val hA36 rfl (r_move (hA36.get rfl)) fun a37 hA37 _ => ?_)
    refine sq (opk_call hA37 rfl (r_call (args := #[Sl.v l_3]) Try.func11 (by decide) rfl (map_arr (ml_cons (hA37.get rfl) ml_nil)) rfl) ht24 fun a39 v45 w40 hA39 _ hn42 hz43 hK44 => ?_)
    obtain ⟨r_38, rfl, ht41⟩ := hK44
    refine sq (opk_call hA39 rfl (r_call (args := #[.int .u64 base_1, .int .u64 target_2, Sl.v r_38]) Try.func10 (by decide) rfl (map_arr (ml_cons (hA39.get rfl) (ml_cons (hA39.get rfl) (ml_cons (hA39.get rfl) ml_nil)))) rfl) ht41 fun a48 v54 w49 hA48 _ hn51 hz52 hK53 => ?_)
    obtain ⟨r_0_46, r_1_47, rfl, ht50⟩ := hK53
    refine sq (opk_val hA48 rfl (r_move (hA48.get rfl)) fun a55 hA55 _ => ?_)
    refine sq (opk_val hA55 rfl (r_extract (hA55.get rfl) rfl) fun a56 hA56 _ => ?_)
    refine sq (opk_val hA56 rfl (r_extract (hA56.get rfl) rfl) fun a57 hA57 _ => ?_)
    refine sq (opk_val hA57 rfl (r_assign (hA57.get rfl)) fun a58 hA58 _ => ?_)
    refine sq (opk_val hA58 rfl (r_assign (hA58.get rfl)) fun a59 hA59 _ => ?_)
    refine sq_end ?_
    have hA60 := hA59.keep [(0, .int .u64 base_1), (1, .int .u64 target_2), (2, Sl.v l_3), (3, Sl.v p_4), (9, Sl.v r_0_46), (10, .int .i64 r_1_47)] ⟨rfl, rfl, rfl, rfl, rfl, rfl, trivial⟩
    refine then_normal ?_
    refine wp_seq ?_
    refine wp_region_lit ?_
    refine sq (opk_val hA60 rfl (r_move (hA60.get rfl)) fun a61 hA61 _ => ?_)
    refine sq (opk_val hA61 rfl (r_eql (hA61.get rfl) rfl) fun a62 hA62 _ => ?_)
    refine sq_end ?_
    have hA63 := hA62.keep [(0, .int .u64 base_1), (1, .int .u64 target_2), (2, Sl.v l_3), (3, Sl.v p_4), (9, Sl.v r_0_46), (39, .bool (decide (r_1_47 = 0)))] ⟨rfl, rfl, rfl, rfl, rfl, rfl, trivial⟩
    refine then_normal ?_
    obtain ⟨J_119, ht120, hr121⟩ := ht50
    refine wp_meet (fun a w => Ag 92 a [(3, Sl.v p_4)] ∧ J_119 w) ?_ ?_
    · refine wp_cond_split (hA63.get rfl) (fun hc => ?_) (fun hc => ?_)
      · have ht122 := ht120.1 (of_decide_eq_true hc)
        clear hc
        refine wp_seq ?_
        refine wp_region_lit ?_
        refine sq (opk_val hA63 rfl (r_move (hA63.get rfl)) fun a124 hA124 _ => ?_)
        refine sq (opk_call hA124 rfl (r_call (args := #[Sl.v r_0_46]) Try.func13 (by decide) rfl (map_arr (ml_cons (hA124.get rfl) ml_nil)) rfl) ht122 fun a129 v135 w130 hA129 _ hn132 hz133 hK134 => ?_)
        obtain ⟨r_0_125, r_1_126, r_2_127, r_3_128, rfl, ht131⟩ := hK134
        refine sq (opk_val hA129 rfl (r_move (hA129.get rfl)) fun a136 hA136 _ => ?_)
        refine sq (opk_val hA136 rfl (r_extract (hA136.get rfl) rfl) fun a137 hA137 _ => ?_)
        refine sq (opk_val hA137 rfl (r_extract (hA137.get rfl) rfl) fun a138 hA138 _ => ?_)
        refine sq (opk_val hA138 rfl (r_extract (hA138.get rfl) rfl) fun a139 hA139 _ => ?_)
        refine sq (opk_val hA139 rfl (r_extract (hA139.get rfl) rfl) fun a140 hA140 _ => ?_)
        refine sq (opk_val hA140 rfl (r_assign (hA140.get rfl)) fun a141 hA141 _ => ?_)
        refine sq (opk_val hA141 rfl (r_assign (hA141.get rfl)) fun a142 hA142 _ => ?_)
        refine sq (opk_val hA142 rfl (r_assign (hA142.get rfl)) fun a143 hA143 _ => ?_)
        refine sq (opk_val hA143 rfl (r_assign (hA143.get rfl)) fun a144 hA144 _ => ?_)
        refine sq_end ?_
        have hA145 := hA144.keep [(0, .int .u64 base_1), (1, .int .u64 target_2), (2, Sl.v l_3), (3, Sl.v p_4), (11, .int .u64 r_0_125), (12, .int .u64 r_1_126), (13, Sl.v r_2_127), (14, .int .i64 r_3_128)] ⟨rfl, rfl, rfl, rfl, rfl, rfl, rfl, rfl, trivial⟩
        refine then_normal ?_
        refine wp_seq ?_
        refine wp_region_lit ?_
        refine sq (opk_val hA145 rfl (r_move (hA145.get rfl)) fun a146 hA146 _ => ?_)
        refine sq (opk_val hA146 rfl (r_neq (hA146.get rfl) rfl) fun a147 hA147 _ => ?_)
        refine sq (opk_val hA147 rfl (r_move (hA147.get rfl)) fun a148 hA148 _ => ?_)
        refine sq (opk_gval hA148 rfl rfl (g := true) (e := (decide (r_3_128 ≠ 0))) rfl (fun hg => r_move (hA148.get rfl)) fun a149 hA149 _ => ?_)
        refine sq (opk_gval hA149 rfl rfl (g := true) (e := (decide (r_3_128 ≠ 0))) rfl (fun hg => r_move (hA149.get rfl)) fun a150 hA150 _ => ?_)
        refine sq (opk_gval hA150 rfl rfl (g := true) (e := (decide (r_3_128 ≠ 0))) rfl (fun hg => r_neq (cv_get (hA150.get rfl) hg) (cv_get (hA150.get rfl) hg)) fun a151 hA151 _ => ?_)
        refine sq (opk_val hA151 rfl (r_pick_or (g := (true && ((decide (r_3_128 ≠ 0)) == false))) (hA151.get rfl) (hA151.get rfl) (fun he => g_mkf rfl he)) fun a152 hA152 _ => ?_)
        refine sq (opk_val hA152 rfl (r_move (hA152.get rfl)) fun a153 hA153 _ => ?_)
        refine sq (opk_gval hA153 rfl rfl (g := true) (e := ((decide (r_3_128 ≠ 0)) || (decide (r_0_125 ≠ base_1)))) rfl (fun hg => r_move (hA153.get rfl)) fun a154 hA154 _ => ?_)
        refine sq (opk_gval hA154 rfl rfl (g := true) (e := ((decide (r_3_128 ≠ 0)) || (decide (r_0_125 ≠ base_1)))) rfl (fun hg => r_move (hA154.get rfl)) fun a155 hA155 _ => ?_)
        refine sq (opk_gval hA155 rfl rfl (g := true) (e := ((decide (r_3_128 ≠ 0)) || (decide (r_0_125 ≠ base_1)))) rfl (fun hg => r_neq (cv_get (hA155.get rfl) hg) (cv_get (hA155.get rfl) hg)) fun a156 hA156 _ => ?_)
        refine sq (opk_val hA156 rfl (r_pick_or (g := (true && (((decide (r_3_128 ≠ 0)) || (decide (r_0_125 ≠ base_1))) == false))) (hA156.get rfl) (hA156.get rfl) (fun he => g_mkf rfl he)) fun a157 hA157 _ => ?_)
        refine sq (opk_val hA157 rfl (r_move (hA157.get rfl)) fun a158 hA158 _ => ?_)
        refine sq (opk_gval hA158 rfl rfl (g := true) (e := (((decide (r_3_128 ≠ 0)) || (decide (r_0_125 ≠ base_1))) || (decide (r_1_126 ≠ target_2)))) rfl (fun hg => r_move (hA158.get rfl)) fun a159 hA159 _ => ?_)
        refine sq (opk_gval hA159 rfl rfl (g := true) (e := (((decide (r_3_128 ≠ 0)) || (decide (r_0_125 ≠ base_1))) || (decide (r_1_126 ≠ target_2)))) rfl (fun hg => r_move (hA159.get rfl)) fun a160 hA160 _ => ?_)
        obtain ⟨r_161, hc165, ht164⟩ := ht131
        refine sq (opk_gcall hA160 rfl rfl (g := true) (e := (((decide (r_3_128 ≠ 0)) || (decide (r_0_125 ≠ base_1))) || (decide (r_1_126 ≠ target_2)))) rfl (fun hg => r_call (args := #[Sl.v r_2_127, Sl.v l_3]) Try.func16 (by decide) rfl (map_arr (ml_cons (cv_get (hA160.get rfl) hg) (ml_cons (cv_get (hA160.get rfl) hg) ml_nil))) rfl) (fun hg => hc165 ⟨⟨(of_decide_eq_false (b_or_f (b_or_f (g_f hg)).1).1), (of_decide_eq_false (b_or_f (b_or_f (g_f hg)).1).2)⟩, (of_decide_eq_false (b_or_f (g_f hg)).2)⟩) fun a162 w163 hA162 _ hE166 => ?_)
        have hC167 : Chg [] w130 w163 := hE166
        have ht168 := ht164 w163 hE166
        refine sq (opk_gval hA162 rfl rfl (g := true) (e := (((decide (r_3_128 ≠ 0)) || (decide (r_0_125 ≠ base_1))) || (decide (r_1_126 ≠ target_2)))) rfl (fun hg => r_not (cv_get (hA162.get rfl) hg)) fun a169 hA169 _ => ?_)
        refine sq (opk_val hA169 rfl (r_pick_or (g := (true && ((((decide (r_3_128 ≠ 0)) || (decide (r_0_125 ≠ base_1))) || (decide (r_1_126 ≠ target_2))) == false))) (hA169.get rfl) (hA169.get rfl) (fun he => g_mkf rfl he)) fun a170 hA170 _ => ?_)
        refine sq_end ?_
        have hA171 := hA170.keep [(3, Sl.v p_4), (64, .bool ((((decide (r_3_128 ≠ 0)) || (decide (r_0_125 ≠ base_1))) || (decide (r_1_126 ≠ target_2))) || (!r_161)))] ⟨rfl, rfl, trivial⟩
        refine then_normal ?_
        refine wp_cond_split (hA171.get rfl) (fun hc => ?_) (fun hc => ?_)
        · have ht172 := ht168.1 ((b_or_t hc).imp (fun h => ((b_or_t h).imp (fun h => ((b_or_t h).imp (fun h => (of_decide_eq_true h)) (fun h => (of_decide_eq_true h)))) (fun h => (of_decide_eq_true h)))) (fun h => (b_not_t h)))
          clear hc
          refine wp_seq ?_
          refine wp_region_lit ?_
          refine sq (opk_val hA171 rfl (r_assign rfl) fun a174 hA174 _ => ?_)
          refine sq_end ?_
          have hA175 := hA174.keep [(8, .bool false)] ⟨rfl, trivial⟩
          refine then_normal ?_
          refine wp_ret ?_
          refine then_ret ?_
          refine then_ret ?_
          exact res_all (vs := [.bool false]) rfl hA175 ⟨res_of_tmp hA175 rfl, trivial⟩ ht172
        · have ht173 := ht168.2 ⟨⟨⟨(of_decide_eq_false (b_or_f (b_or_f (b_or_f hc).1).1).1), (of_decide_eq_false (b_or_f (b_or_f (b_or_f hc).1).1).2)⟩, (of_decide_eq_false (b_or_f (b_or_f hc).1).2)⟩, (b_not_f (b_or_f hc).2)⟩
          clear hc
          refine wp_skip ?_
          have hA176 := hA171.keep [(3, Sl.v p_4)] ⟨rfl, trivial⟩
          exact then_normal ⟨hA176, ht173⟩
      · have ht123 := ht120.2 (of_decide_eq_false hc)
        clear hc
        refine wp_skip ?_
        have hA177 := hA63.keep [(3, Sl.v p_4)] ⟨rfl, trivial⟩
        exact then_normal ⟨hA177, ht123⟩
    · intro a178 w118 hm
      obtain ⟨hA178, hJ312⟩ := hm
      have ht179 := hr121 w118 hJ312
      refine then_normal ?_
      refine wp_seq ?_
      refine wp_seq ?_
      refine wp_region_lit ?_
      refine sq (opk_val hA178 rfl (r_move (hA178.get rfl)) fun a180 hA180 _ => ?_)
      refine sq (opk_call hA180 rfl (r_call (args := #[Sl.v p_4]) Try.func14 (by decide) rfl (map_arr (ml_cons (hA180.get rfl) ml_nil)) rfl) ht179 fun a182 v188 w183 hA182 _ hn185 hz186 hK187 => ?_)
      obtain ⟨r_181, rfl, ht184⟩ := hK187
      refine sq (opk_call hA182 rfl (r_call (args := #[Sl.v r_181]) Try.func13 (by decide) rfl (map_arr (ml_cons (hA182.get rfl) ml_nil)) rfl) ht184 fun a193 v199 w194 hA193 _ hn196 hz197 hK198 => ?_)
      obtain ⟨r_0_189, r_1_190, r_2_191, r_3_192, rfl, ht195⟩ := hK198
      refine sq (opk_val hA193 rfl (r_move (hA193.get rfl)) fun a200 hA200 _ => ?_)
      refine sq (opk_val hA200 rfl (r_extract (hA200.get rfl) rfl) fun a201 hA201 _ => ?_)
      refine sq (opk_val hA201 rfl (r_extract (hA201.get rfl) rfl) fun a202 hA202 _ => ?_)
      refine sq (opk_val hA202 rfl (r_extract (hA202.get rfl) rfl) fun a203 hA203 _ => ?_)
      refine sq (opk_val hA203 rfl (r_extract (hA203.get rfl) rfl) fun a204 hA204 _ => ?_)
      refine sq (opk_val hA204 rfl (r_assign (hA204.get rfl)) fun a205 hA205 _ => ?_)
      refine sq (opk_val hA205 rfl (r_assign (hA205.get rfl)) fun a206 hA206 _ => ?_)
      refine sq (opk_val hA206 rfl (r_assign (hA206.get rfl)) fun a207 hA207 _ => ?_)
      refine sq (opk_val hA207 rfl (r_assign (hA207.get rfl)) fun a208 hA208 _ => ?_)
      refine sq_end ?_
      have hA209 := hA208.keep [(3, Sl.v p_4), (15, .int .u64 r_0_189), (16, .int .u64 r_1_190), (17, Sl.v r_2_191), (18, .int .i64 r_3_192)] ⟨rfl, rfl, rfl, rfl, rfl, trivial⟩
      refine then_normal ?_
      refine wp_seq ?_
      refine wp_region_lit ?_
      refine sq (opk_val hA209 rfl (r_move (hA209.get rfl)) fun a210 hA210 _ => ?_)
      refine sq (opk_val hA210 rfl (r_eql (hA210.get rfl) rfl) fun a211 hA211 _ => ?_)
      refine sq_end ?_
      have hA212 := hA211.keep [(3, Sl.v p_4), (15, .int .u64 r_0_189), (16, .int .u64 r_1_190), (17, Sl.v r_2_191), (74, .bool (decide (r_3_192 = 0)))] ⟨rfl, rfl, rfl, rfl, rfl, trivial⟩
      refine then_normal ?_
      obtain ⟨J_254, ht255, hr256⟩ := ht195
      refine wp_meet (fun a w => Ag 92 a [] ∧ J_254 w) ?_ ?_
      · refine wp_cond_split (hA212.get rfl) (fun hc => ?_) (fun hc => ?_)
        · have ht257 := ht255.1 (of_decide_eq_true hc)
          clear hc
          refine wp_seq ?_
          refine wp_region_lit ?_
          refine sq (opk_val hA212 rfl (r_move (hA212.get rfl)) fun a259 hA259 _ => ?_)
          refine sq (opk_val hA259 rfl (r_move (hA259.get rfl)) fun a260 hA260 _ => ?_)
          refine sq (opk_val hA260 rfl (r_move (hA260.get rfl)) fun a261 hA261 _ => ?_)
          refine sq (opk_call hA261 rfl (r_call (args := #[.int .u64 r_0_189, .int .u64 r_1_190, Sl.v r_2_191]) Try.func10 (by decide) rfl (map_arr (ml_cons (hA261.get rfl) (ml_cons (hA261.get rfl) (ml_cons (hA261.get rfl) ml_nil)))) rfl) ht257 fun a264 v270 w265 hA264 _ hn267 hz268 hK269 => ?_)
          obtain ⟨r_0_262, r_1_263, rfl, ht266⟩ := hK269
          refine sq (opk_val hA264 rfl (r_move (hA264.get rfl)) fun a271 hA271 _ => ?_)
          refine sq (opk_val hA271 rfl (r_extract (hA271.get rfl) rfl) fun a272 hA272 _ => ?_)
          refine sq (opk_val hA272 rfl (r_extract (hA272.get rfl) rfl) fun a273 hA273 _ => ?_)
          refine sq (opk_val hA273 rfl (r_assign (hA273.get rfl)) fun a274 hA274 _ => ?_)
          refine sq (opk_val hA274 rfl (r_assign (hA274.get rfl)) fun a275 hA275 _ => ?_)
          refine sq_end ?_
          have hA276 := hA275.keep [(3, Sl.v p_4), (19, Sl.v r_0_262), (20, .int .i64 r_1_263)] ⟨rfl, rfl, rfl, trivial⟩
          refine then_normal ?_
          refine wp_seq ?_
          refine wp_region_lit ?_
          refine sq (opk_val hA276 rfl (r_move (hA276.get rfl)) fun a277 hA277 _ => ?_)
          refine sq (opk_val hA277 rfl (r_neq (hA277.get rfl) rfl) fun a278 hA278 _ => ?_)
          refine sq (opk_val hA278 rfl (r_move (hA278.get rfl)) fun a279 hA279 _ => ?_)
          refine sq (opk_gval hA279 rfl rfl (g := true) (e := (decide (r_1_263 ≠ 0))) rfl (fun hg => r_move (hA279.get rfl)) fun a280 hA280 _ => ?_)
          obtain ⟨s_281, hx282, ht283⟩ := ht266
          refine sq (opk_gval hA280 rfl rfl (g := true) (e := (decide (r_1_263 ≠ 0))) rfl (fun hg => r_convR (cv_get (hA280.get rfl) hg) (hx282 (of_decide_eq_false (g_f hg)))) fun a284 hA284 _ => ?_)
          refine sq (opk_gval hA284 rfl rfl (g := true) (e := (decide (r_1_263 ≠ 0))) rfl (fun hg => r_move (hA284.get rfl)) fun a285 hA285 _ => ?_)
          obtain ⟨s_286, hx287, ht288⟩ := ht283
          refine sq (opk_gval hA285 rfl rfl (g := true) (e := (decide (r_1_263 ≠ 0))) rfl (fun hg => r_convR (cv_get (hA285.get rfl) hg) (hx287 (of_decide_eq_false (g_f hg)))) fun a289 hA289 _ => ?_)
          refine sq (opk_gval hA289 rfl rfl (g := true) (e := (decide (r_1_263 ≠ 0))) rfl (fun hg => r_sneq (cv_get (hA289.get rfl) hg) (cv_get (hA289.get rfl) hg)) fun a290 hA290 _ => ?_)
          refine sq (opk_val hA290 rfl (r_pick_or (g := (true && ((decide (r_1_263 ≠ 0)) == false))) (hA290.get rfl) (hA290.get rfl) (fun he => g_mkf rfl he)) fun a291 hA291 _ => ?_)
          refine sq_end ?_
          have hA292 := hA291.keep [(90, .bool ((decide (r_1_263 ≠ 0)) || (decide (s_281 ≠ s_286))))] ⟨rfl, trivial⟩
          refine then_normal ?_
          refine wp_cond_split (hA292.get rfl) (fun hc => ?_) (fun hc => ?_)
          · have ht293 := ht288.1 ((b_or_t hc).imp (fun h => (of_decide_eq_true h)) (fun h => (of_decide_eq_true h)))
            clear hc
            refine wp_seq ?_
            refine wp_region_lit ?_
            refine sq (opk_val hA292 rfl (r_assign rfl) fun a295 hA295 _ => ?_)
            refine sq_end ?_
            have hA296 := hA295.keep [(8, .bool false)] ⟨rfl, trivial⟩
            refine then_normal ?_
            refine wp_ret ?_
            refine then_ret ?_
            refine then_ret ?_
            exact res_all (vs := [.bool false]) rfl hA296 ⟨res_of_tmp hA296 rfl, trivial⟩ ht293
          · have ht294 := ht288.2 ⟨(of_decide_eq_false (b_or_f hc).1), (of_decide_eq_false (b_or_f hc).2)⟩
            clear hc
            refine wp_skip ?_
            have hA297 := hA292.keep [] trivial
            exact then_normal ⟨hA297, ht294⟩
        · have ht258 := ht255.2 (of_decide_eq_false hc)
          clear hc
          refine wp_skip ?_
          have hA298 := hA212.keep [] trivial
          exact then_normal ⟨hA298, ht258⟩
      · intro a299 w253 hm
        obtain ⟨hA299, hJ311⟩ := hm
        have ht300 := hr256 w253 hJ311
        refine then_normal ?_
        refine wp_seq ?_
        refine wp_region_lit ?_
        refine sq (opk_call hA299 rfl (r_call (args := #[]) Try.func9 (by decide) rfl (map_arr ml_nil) rfl) ht300 fun a302 v308 w303 hA302 _ hn305 hz306 hK307 => ?_)
        obtain ⟨r_301, rfl, ht304⟩ := hK307
        refine sq (opk_val hA302 rfl (r_assign (hA302.get rfl)) fun a309 hA309 _ => ?_)
        refine sq_end ?_
        have hA310 := hA309.keep [(8, .bool r_301)] ⟨rfl, trivial⟩
        refine then_normal ?_
        refine wp_ret ?_
        exact res_all (vs := [.bool r_301]) rfl hA310 ⟨res_of_tmp hA310 rfl, trivial⟩ ht304

end Go.Proofs.Yteacalmdpoblpaa
