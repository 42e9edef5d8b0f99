/-
  PRINTED BY PROGRAM: for each function its condition (vc), and that this suffices (ok).
-/
import Derived.Test.YteacalmdpoblpaaQCodecSummedGT
namespace Go.Proofs.Yteacalmdpoblpaa
open Go.RowKit
set_option linter.unusedVariables false

/-- The condition of topiary/topiarylaw24.CodecSummed. -/
def law24_CodecSummed.vc (p_1 : Sl) (R : Value → World → Prop) (w : World) : Prop :=
((3000 < (p_1.n : Int)) →
CallK Try.prog 9 #[] w [] (fun v w12 => ∃ (r_10 : Bool), v = .bool r_10 ∧
R (.bool r_10) w12)) ∧
((¬ (3000 < (p_1.n : Int))) →
CallK Try.prog 14 #[Sl.v p_1] w [] (fun v w23 => ∃ (r_21 : Sl), v = Sl.v r_21 ∧
CallK Try.prog 18 #[.int .u32 0, Sl.v p_1] w23 [] (fun v w32 => ∃ (r_30 : Int), v = .int .u32 r_30 ∧
CallK Try.prog 17 #[.int .u32 r_30] w32 [] (fun v w40 => ∃ (r_38 : Sl), v = Sl.v r_38 ∧
RunK Try.prog (Builtin.append_ #[24, 24] 24 #[Sl.v r_21, Sl.v r_38]) w40 [] (fun v w47 => ∃ (r_53 : Sl), v = Sl.v r_53 ∧
CallK Try.prog 14 #[Sl.v r_53] w47 [] (fun v w59 => ∃ (r_57 : Sl), v = Sl.v r_57 ∧
CallK Try.prog 13 #[Sl.v r_57] w59 [] (fun v w70 => ∃ (r_0_65 : Int) (r_1_66 : Int) (r_2_67 : Sl) (r_3_68 : Int), v = .tuple #[.int .u64 r_0_65, .int .u64 r_1_66, Sl.v r_2_67, .int .i64 r_3_68] ∧
(((r_53.n : Int) < 26) →
∃ (r_95 : Bool), (((r_3_68 = 9)) → Calls Try.prog 9 #[] w70 (Ret fun v w' => Ext w70 w' ∧ v = .bool r_95)) ∧
(∀ w97 : World, Ext w70 w97 →
R (.bool ((decide (r_3_68 = 9)) && r_95)) w97)) ∧
((¬ ((r_53.n : Int) < 26)) →
CallK Try.prog 10 #[.int .u64 r_0_65, .int .u64 r_1_66, Sl.v r_2_67] w70 [] (fun v w112 => ∃ (r_0_109 : Sl) (r_1_110 : Int), v = .tuple #[Sl.v r_0_109, .int .i64 r_1_110] ∧
∃ s_130 : Str, (((r_1_110 = 0)) → (convert 24 9 (Sl.v r_0_109)).run Try.prog w112 = .ok (.string (Bs s_130)) w112) ∧
∃ s_135 : Str, (((r_1_110 = 0)) → (convert 24 9 (Sl.v r_53)).run Try.prog w112 = .ok (.string (Bs s_135)) w112) ∧
∃ (r_151 : Bool), ((((((decide (r_3_68 = 0)) == ((decide (r_1_110 = 0)) && (decide (s_130 = s_135)))) = true) ∧ ((r_3_68 = 0) ∨ (r_3_68 = 10)))) → Calls Try.prog 9 #[] w112 (Ret fun v w' => Ext w112 w' ∧ v = .bool r_151)) ∧
(∀ w153 : World, Ext w112 w153 →
R (.bool ((((decide (r_3_68 = 0)) == ((decide (r_1_110 = 0)) && (decide (s_130 = s_135)))) && ((decide (r_3_68 = 0)) || (decide (r_3_68 = 10)))) && r_151)) w153))))))))))
set_option maxHeartbeats 1000000 in
set_option maxRecDepth 10000 in
theorem law24_CodecSummed.ok (p_1 : Sl) {R : Value → World → Prop} {w : World} (ht0 : law24_CodecSummed.vc p_1 R w) : Calls Try.prog 5 #[Sl.v p_1] w (Ret R) := by
  refine enter [Sl.v p_1] Try.func5 rfl Try.ntmps5 rfl ?_
  intro a0 hA0
  unfold law24_CodecSummed.vc at ht0
  refine wp_seq ?_
  refine wp_region_lit ?_
  refine sq (opk_val hA0 rfl (r_assign rfl) fun a2 hA2 _ => ?_)
  refine sq_end ?_
  have hA3 := hA2.keep [(0, Sl.v p_1)] ⟨rfl, trivial⟩
  refine then_normal ?_
  refine wp_seq ?_
  refine wp_seq ?_
  refine wp_region_lit ?_
  refine sq (opk_val hA3 rfl (r_move (hA3.get rfl)) fun a4 hA4 _ => ?_)
  refine sq (opk_val hA4 rfl (r_len (hA4.get rfl) Try.underlying24) fun a5 hA5 _ => ?_)
  refine sq (opk_val hA5 rfl (r_gtr (hA5.get rfl) rfl) fun a6 hA6 _ => ?_)
  refine sq_end ?_
  have hA7 := hA6.keep [(0, Sl.v p_1), (12, .bool (decide (3000 < (p_1.n : Int))))] ⟨rfl, rfl, trivial⟩
  refine then_normal ?_
  refine wp_cond_split (hA7.get rfl) (fun hc => ?_) (fun hc => ?_)
  · have ht8 := ht0.1 (of_decide_eq_true hc)
    clear hc
    refine wp_seq ?_
    refine wp_region_lit ?_
    refine sq (opk_call hA7 rfl (r_call (args := #[]) Try.func9 (by decide) rfl (map_arr ml_nil) rfl) ht8 fun a11 v17 w12 hA11 _ hn14 hz15 hK16 => ?_)
    obtain ⟨r_10, rfl, ht13⟩ := hK16
    refine sq (opk_val hA11 rfl (r_assign (hA11.get rfl)) fun a18 hA18 _ => ?_)
    refine sq_end ?_
    have hA19 := hA18.keep [(2, .bool r_10)] ⟨rfl, trivial⟩
    refine then_normal ?_
    refine wp_ret ?_
    refine then_ret ?_
    exact res_all (vs := [.bool r_10]) rfl hA19 ⟨res_of_tmp hA19 rfl, trivial⟩ ht13
  · have ht9 := ht0.2 (of_decide_eq_false hc)
    clear hc
    refine wp_skip ?_
    refine then_normal ?_
    refine wp_seq ?_
    refine wp_region_lit ?_
    refine sq (opk_val hA7 rfl (r_move (hA7.get rfl)) fun a20 hA20 _ => ?_)
    refine sq (opk_call hA20 rfl (r_call (args := #[Sl.v p_1]) Try.func14 (by decide) rfl (map_arr (ml_cons (hA20.get rfl) ml_nil)) rfl) ht9 fun a22 v28 w23 hA22 _ hn25 hz26 hK27 => ?_)
    obtain ⟨r_21, rfl, ht24⟩ := hK27
    refine sq (opk_val hA22 rfl (r_move (hA22.get rfl)) fun a29 hA29 _ => ?_)
    refine sq (opk_call hA29 rfl (r_call (args := #[.int .u32 0, Sl.v p_1]) Try.func18 (by decide) rfl (map_arr (ml_cons rfl (ml_cons (hA29.get rfl) ml_nil))) rfl) ht24 fun a31 v37 w32 hA31 _ hn34 hz35 hK36 => ?_)
    obtain ⟨r_30, rfl, ht33⟩ := hK36
    refine sq (opk_call hA31 rfl (r_call (args := #[.int .u32 r_30]) Try.func17 (by decide) rfl (map_arr (ml_cons (hA31.get rfl) ml_nil)) rfl) ht33 fun a39 v45 w40 hA39 _ hn42 hz43 hK44 => ?_)
    obtain ⟨r_38, rfl, ht41⟩ := hK44
    refine sq (opk_run hA39 rfl (fun _ _ hr => r_append (hA39.get rfl) (hA39.get rfl) hr) ht41 fun a46 v52 w47 hA46 _ hn49 hz50 hK51 => ?_)
    obtain ⟨r_53, rfl, ht48⟩ := hK51
    refine sq (opk_val hA46 rfl (r_assign (hA46.get rfl)) fun a54 hA54 _ => ?_)
    refine sq_end ?_
    have hA55 := hA54.keep [(3, Sl.v r_53)] ⟨rfl, trivial⟩
    refine then_normal ?_
    refine wp_seq ?_
    refine wp_region_lit ?_
    refine sq (opk_val hA55 rfl (r_move (hA55.get rfl)) fun a56 hA56 _ => ?_)
    refine sq (opk_call hA56 rfl (r_call (args := #[Sl.v r_53]) Try.func14 (by decide) rfl (map_arr (ml_cons (hA56.get rfl) ml_nil)) rfl) ht48 fun a58 v64 w59 hA58 _ hn61 hz62 hK63 => ?_)
    obtain ⟨r_57, rfl, ht60⟩ := hK63
    refine sq (opk_call hA58 rfl (r_call (args := #[Sl.v r_57]) Try.func13 (by decide) rfl (map_arr (ml_cons (hA58.get rfl) ml_nil)) rfl) ht60 fun a69 v75 w70 hA69 _ hn72 hz73 hK74 => ?_)
    obtain ⟨r_0_65, r_1_66, r_2_67, r_3_68, rfl, ht71⟩ := hK74
    refine sq (opk_val hA69 rfl (r_move (hA69.get rfl)) fun a76 hA76 _ => ?_)
    refine sq (opk_val hA76 rfl (r_extract (hA76.get rfl) rfl) fun a77 hA77 _ => ?_)
    refine sq (opk_val hA77 rfl (r_extract (hA77.get rfl) rfl) fun a78 hA78 _ => ?_)
    refine sq (opk_val hA78 rfl (r_extract (hA78.get rfl) rfl) fun a79 hA79 _ => ?_)
    refine sq (opk_val hA79 rfl (r_extract (hA79.get rfl) rfl) fun a80 hA80 _ => ?_)
    refine sq (opk_val hA80 rfl (r_assign (hA80.get rfl)) fun a81 hA81 _ => ?_)
    refine sq (opk_val hA81 rfl (r_assign (hA81.get rfl)) fun a82 hA82 _ => ?_)
    refine sq (opk_val hA82 rfl (r_assign (hA82.get rfl)) fun a83 hA83 _ => ?_)
    refine sq (opk_val hA83 rfl (r_assign (hA83.get rfl)) fun a84 hA84 _ => ?_)
    refine sq_end ?_
    have hA85 := hA84.keep [(3, Sl.v r_53), (4, .int .u64 r_0_65), (5, .int .u64 r_1_66), (6, Sl.v r_2_67), (7, .int .i64 r_3_68)] ⟨rfl, rfl, rfl, rfl, rfl, trivial⟩
    refine then_normal ?_
    refine wp_seq ?_
    refine wp_seq ?_
    refine wp_region_lit ?_
    refine sq (opk_val hA85 rfl (r_move (hA85.get rfl)) fun a86 hA86 _ => ?_)
    refine sq (opk_val hA86 rfl (r_len (hA86.get rfl) Try.underlying24) fun a87 hA87 _ => ?_)
    refine sq (opk_val hA87 rfl (r_lss (hA87.get rfl) rfl) fun a88 hA88 _ => ?_)
    refine sq_end ?_
    have hA89 := hA88.keep [(3, Sl.v r_53), (4, .int .u64 r_0_65), (5, .int .u64 r_1_66), (6, Sl.v r_2_67), (7, .int .i64 r_3_68), (30, .bool (decide ((r_53.n : Int) < 26)))] ⟨rfl, rfl, rfl, rfl, rfl, rfl, trivial⟩
    refine then_normal ?_
    refine wp_cond_split (hA89.get rfl) (fun hc => ?_) (fun hc => ?_)
    · have ht90 := ht71.1 (of_decide_eq_true hc)
      clear hc
      refine wp_seq ?_
      refine wp_region_lit ?_
      refine sq (opk_val hA89 rfl (r_move (hA89.get rfl)) fun a92 hA92 _ => ?_)
      refine sq (opk_val hA92 rfl (r_eql (hA92.get rfl) rfl) fun a93 hA93 _ => ?_)
      refine sq (opk_val hA93 rfl (r_move (hA93.get rfl)) fun a94 hA94 _ => ?_)
      obtain ⟨r_95, hc99, ht98⟩ := ht90
      refine sq (opk_gcall hA94 rfl rfl (g := true) (e := (decide (r_3_68 = 9))) rfl (fun hg => r_call (args := #[]) Try.func9 (by decide) rfl (map_arr ml_nil) rfl) (fun hg => hc99 (of_decide_eq_true (g_t hg))) fun a96 w97 hA96 _ hE100 => ?_)
      have hC101 : Chg [] w70 w97 := hE100
      have ht102 := ht98 w97 hE100
      refine sq (opk_val hA96 rfl (r_pick_and (g := (true && ((decide (r_3_68 = 9)) == true))) (hA96.get rfl) (hA96.get rfl) (fun he => g_mkt rfl he)) fun a103 hA103 _ => ?_)
      refine sq (opk_val hA103 rfl (r_assign (hA103.get rfl)) fun a104 hA104 _ => ?_)
      refine sq_end ?_
      have hA105 := hA104.keep [(2, .bool ((decide (r_3_68 = 9)) && r_95))] ⟨rfl, trivial⟩
      refine then_normal ?_
      refine wp_ret ?_
      refine then_ret ?_
      exact res_all (vs := [.bool ((decide (r_3_68 = 9)) && r_95)]) rfl hA105 ⟨res_of_tmp hA105 rfl, trivial⟩ ht102
    · have ht91 := ht71.2 (of_decide_eq_false hc)
      clear hc
      refine wp_skip ?_
      refine then_normal ?_
      refine wp_seq ?_
      refine wp_region_lit ?_
      refine sq (opk_val hA89 rfl (r_move (hA89.get rfl)) fun a106 hA106 _ => ?_)
      refine sq (opk_val hA106 rfl (r_move (hA106.get rfl)) fun a107 hA107 _ => ?_)
      refine sq (opk_val hA107 rfl (r_move (hA107.get rfl)) fun a108 hA108 _ => ?_)
      refine sq (opk_call hA108 rfl (r_call (args := #[.int .u64 r_0_65, .int .u64 r_1_66, Sl.v r_2_67]) Try.func10 (by decide) rfl (map_arr (ml_cons (hA108.get rfl) (ml_cons (hA108.get rfl) (ml_cons (hA108.get rfl) ml_nil)))) rfl) ht91 fun a111 v117 w112 hA111 _ hn114 hz115 hK116 => ?_)
      obtain ⟨r_0_109, r_1_110, rfl, ht113⟩ := hK116
      refine sq (opk_val hA111 rfl (r_move (hA111.get rfl)) fun a118 hA118 _ => ?_)
      refine sq (opk_val hA118 rfl (r_extract (hA118.get rfl) rfl) fun a119 hA119 _ => ?_)
      refine sq (opk_val hA119 rfl (r_extract (hA119.get rfl) rfl) fun a120 hA120 _ => ?_)
      refine sq (opk_val hA120 rfl (r_assign (hA120.get rfl)) fun a121 hA121 _ => ?_)
      refine sq (opk_val hA121 rfl (r_assign (hA121.get rfl)) fun a122 hA122 _ => ?_)
      refine sq_end ?_
      have hA123 := hA122.keep [(3, Sl.v r_53), (7, .int .i64 r_3_68), (8, Sl.v r_0_109), (9, .int .i64 r_1_110)] ⟨rfl, rfl, rfl, rfl, trivial⟩
      refine then_normal ?_
      refine wp_seq ?_
      refine wp_region_lit ?_
      refine sq (opk_val hA123 rfl (r_move (hA123.get rfl)) fun a124 hA124 _ => ?_)
      refine sq (opk_val hA124 rfl (r_eql (hA124.get rfl) rfl) fun a125 hA125 _ => ?_)
      refine sq (opk_val hA125 rfl (r_move (hA125.get rfl)) fun a126 hA126 _ => ?_)
      refine sq (opk_val hA126 rfl (r_eql (hA126.get rfl) rfl) fun a127 hA127 _ => ?_)
      refine sq (opk_val hA127 rfl (r_move (hA127.get rfl)) fun a128 hA128 _ => ?_)
      refine sq (opk_gval hA128 rfl rfl (g := true) (e := (decide (r_1_110 = 0))) rfl (fun hg => r_move (hA128.get rfl)) fun a129 hA129 _ => ?_)
      obtain ⟨s_130, hx131, ht132⟩ := ht113
      refine sq (opk_gval hA129 rfl rfl (g := true) (e := (decide (r_1_110 = 0))) rfl (fun hg => r_convR (cv_get (hA129.get rfl) hg) (hx131 (of_decide_eq_true (g_t hg)))) fun a133 hA133 _ => ?_)
      refine sq (opk_gval hA133 rfl rfl (g := true) (e := (decide (r_1_110 = 0))) rfl (fun hg => r_move (hA133.get rfl)) fun a134 hA134 _ => ?_)
      obtain ⟨s_135, hx136, ht137⟩ := ht132
      refine sq (opk_gval hA134 rfl rfl (g := true) (e := (decide (r_1_110 = 0))) rfl (fun hg => r_convR (cv_get (hA134.get rfl) hg) (hx136 (of_decide_eq_true (g_t hg)))) fun a138 hA138 _ => ?_)
      refine sq (opk_gval hA138 rfl rfl (g := true) (e := (decide (r_1_110 = 0))) rfl (fun hg => r_seql (cv_get (hA138.get rfl) hg) (cv_get (hA138.get rfl) hg)) fun a139 hA139 _ => ?_)
      refine sq (opk_val hA139 rfl (r_pick_and (g := (true && ((decide (r_1_110 = 0)) == true))) (hA139.get rfl) (hA139.get rfl) (fun he => g_mkt rfl he)) fun a140 hA140 _ => ?_)
      refine sq (opk_val hA140 rfl (r_beql (hA140.get rfl) (hA140.get rfl) Try.underlying4) fun a141 hA141 _ => ?_)
      refine sq (opk_val hA141 rfl (r_move (hA141.get rfl)) fun a142 hA142 _ => ?_)
      refine sq (opk_gval hA142 rfl rfl (g := true) (e := ((decide (r_3_68 = 0)) == ((decide (r_1_110 = 0)) && (decide (s_130 = s_135))))) rfl (fun hg => r_move (hA142.get rfl)) fun a143 hA143 _ => ?_)
      refine sq (opk_gval hA143 rfl rfl (g := true) (e := ((decide (r_3_68 = 0)) == ((decide (r_1_110 = 0)) && (decide (s_130 = s_135))))) rfl (fun hg => r_eql (cv_get (hA143.get rfl) hg) rfl) fun a144 hA144 _ => ?_)
      refine sq (opk_gval hA144 rfl rfl (g := true) (e := ((decide (r_3_68 = 0)) == ((decide (r_1_110 = 0)) && (decide (s_130 = s_135))))) rfl (fun hg => r_move (cv_get (hA144.get rfl) hg)) fun a145 hA145 _ => ?_)
      refine sq (opk_gval hA145 rfl rfl (g := (true && (((decide (r_3_68 = 0)) == ((decide (r_1_110 = 0)) && (decide (s_130 = s_135)))) == true))) (e := (decide (r_3_68 = 0))) rfl (fun hg => r_move (hA145.get rfl)) fun a146 hA146 _ => ?_)
      refine sq (opk_gval hA146 rfl rfl (g := (true && (((decide (r_3_68 = 0)) == ((decide (r_1_110 = 0)) && (decide (s_130 = s_135)))) == true))) (e := (decide (r_3_68 = 0))) rfl (fun hg => r_eql (cv_get (hA146.get rfl) hg) rfl) fun a147 hA147 _ => ?_)
      refine sq (opk_gval hA147 rfl rfl (g := true) (e := ((decide (r_3_68 = 0)) == ((decide (r_1_110 = 0)) && (decide (s_130 = s_135))))) rfl (fun hg => r_pick_or (g := ((true && (((decide (r_3_68 = 0)) == ((decide (r_1_110 = 0)) && (decide (s_130 = s_135)))) == true)) && ((decide (r_3_68 = 0)) == false))) (cv_get (hA147.get rfl) hg) (hA147.get rfl) (fun he => g_mkf hg he)) fun a148 hA148 _ => ?_)
      refine sq (opk_val hA148 rfl (r_pick_and (g := (true && (((decide (r_3_68 = 0)) == ((decide (r_1_110 = 0)) && (decide (s_130 = s_135)))) == true))) (hA148.get rfl) (hA148.get rfl) (fun he => g_mkt rfl he)) fun a149 hA149 _ => ?_)
      refine sq (opk_val hA149 rfl (r_move (hA149.get rfl)) fun a150 hA150 _ => ?_)
      obtain ⟨r_151, hc155, ht154⟩ := ht137
      refine sq (opk_gcall hA150 rfl rfl (g := true) (e := (((decide (r_3_68 = 0)) == ((decide (r_1_110 = 0)) && (decide (s_130 = s_135)))) && ((decide (r_3_68 = 0)) || (decide (r_3_68 = 10))))) rfl (fun hg => r_call (args := #[]) Try.func9 (by decide) rfl (map_arr ml_nil) rfl) (fun hg => hc155 ⟨(b_and_t (g_t hg)).1, ((b_or_t (b_and_t (g_t hg)).2).imp (fun h => (of_decide_eq_true h)) (fun h => (of_decide_eq_true h)))⟩) fun a152 w153 hA152 _ hE156 => ?_)
      have hC157 : Chg [] w112 w153 := hE156
      have ht158 := ht154 w153 hE156
      refine sq (opk_val hA152 rfl (r_pick_and (g := (true && ((((decide (r_3_68 = 0)) == ((decide (r_1_110 = 0)) && (decide (s_130 = s_135)))) && ((decide (r_3_68 = 0)) || (decide (r_3_68 = 10)))) == true))) (hA152.get rfl) (hA152.get rfl) (fun he => g_mkt rfl he)) fun a159 hA159 _ => ?_)
      refine sq (opk_val hA159 rfl (r_assign (hA159.get rfl)) fun a160 hA160 _ => ?_)
      refine sq_end ?_
      have hA161 := hA160.keep [(2, .bool ((((decide (r_3_68 = 0)) == ((decide (r_1_110 = 0)) && (decide (s_130 = s_135)))) && ((decide (r_3_68 = 0)) || (decide (r_3_68 = 10)))) && r_151))] ⟨rfl, trivial⟩
      refine then_normal ?_
      refine wp_ret ?_
      exact res_all (vs := [.bool ((((decide (r_3_68 = 0)) == ((decide (r_1_110 = 0)) && (decide (s_130 = s_135)))) && ((decide (r_3_68 = 0)) || (decide (r_3_68 = 10)))) && r_151)]) rfl hA161 ⟨res_of_tmp hA161 rfl, trivial⟩ ht158

end Go.Proofs.Yteacalmdpoblpaa
