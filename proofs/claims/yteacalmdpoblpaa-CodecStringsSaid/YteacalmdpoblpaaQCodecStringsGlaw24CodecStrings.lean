/-
  PRINTED BY PROGRAM: for each function its condition (vc), and that this suffices (ok).
-/
import Derived.Test.YteacalmdpoblpaaQCodecStringsGT
namespace Go.Proofs.Yteacalmdpoblpaa
open Go.RowKit
set_option linter.unusedVariables false

/-- The condition of topiary/topiarylaw24.CodecStrings. -/
def law24_CodecStrings.vc (n_1 : Int) (name_2 : Str) (text_3 : Str) (R : Value → World → Prop) (w : World) : Prop :=
CallK Try.prog 19 #[.int .i64 n_1, .int .i64 60] w [] (fun v w9 => ∃ (r_7 : Int), v = .int .i64 r_7 ∧
(I64 (1 + r_7)) ∧
((((100 < (name_2.length : Int)) ∨ (100 < (text_3.length : Int))) ∨ (name_2 = text_3)) →
CallK Try.prog 9 #[] w9 [] (fun v w38 => ∃ (r_36 : Bool), v = .bool r_36 ∧
R (.bool r_36) w38)) ∧
((((¬ (100 < (name_2.length : Int))) ∧ (¬ (100 < (text_3.length : Int)))) ∧ (¬ (name_2 = text_3))) →
∃ (J_53 : Sl → Int → World → Prop) (mu_54 : Sl → Int → World → Nat),
J_53 Sl.nil 0 w9 ∧
(∀ (l_50 : Sl) (i_51 : Int) (w52 : World), J_53 l_50 i_51 w52 →
((i_51 < (1 + r_7)) →
∀ (w110 : World) (B_109 : Nat), New w52 B_109 w110 → Chg [] w52 w110 →
∀ (_ : Box w110 B_109 42 [.int .i64 4, .int .i64 i_51, .int .i64 0, .int .i64 0, .int .i64 0, .string (Bs name_2), .string (Bs text_3)]),
RunK Try.prog (Builtin.append_ #[23, 23] 23 #[Sl.v l_50, Sl.v (Sl.mk (some ⟨B_109, 0, none⟩) 1 1)]) w110 [] (fun v w120 => ∃ (r_126 : Sl), v = Sl.v r_126 ∧
(I64 (i_51 + 1)) ∧
J_53 r_126 (i_51 + 1) w120 ∧ mu_54 r_126 (i_51 + 1) w120 < mu_54 l_50 i_51 w52)) ∧
((¬ (i_51 < (1 + r_7))) →
CallK Try.prog 10 #[.int .u64 1, .int .u64 2, Sl.v l_50] w52 [] (fun v w141 => ∃ (r_0_138 : Sl) (r_1_139 : Int), v = .tuple #[Sl.v r_0_138, .int .i64 r_1_139] ∧
(((r_1_139 = 0)) → I64 (22 + (name_2.length : Int))) ∧
(((r_1_139 = 0)) → I64 ((22 + (name_2.length : Int)) + 1)) ∧
(((r_1_139 = 0)) → I64 (((22 + (name_2.length : Int)) + 1) + (text_3.length : Int))) ∧
(((r_1_139 = 0)) → I64 ((((22 + (name_2.length : Int)) + 1) + (text_3.length : Int)) + 1)) ∧
(((r_1_139 = 0)) → I64 (4 * (1 + r_7))) ∧
(((r_1_139 = 0)) → I64 (((((22 + (name_2.length : Int)) + 1) + (text_3.length : Int)) + 1) + (4 * (1 + r_7)))) ∧
(((r_1_139 = 0)) → I64 ((((((22 + (name_2.length : Int)) + 1) + (text_3.length : Int)) + 1) + (4 * (1 + r_7))) + 4)) ∧
∃ (r_187 : Bool), ((((r_1_139 = 0) ∧ ((r_0_138.n : Int) = ((((((22 + (name_2.length : Int)) + 1) + (text_3.length : Int)) + 1) + (4 * (1 + r_7))) + 4)))) → Calls Try.prog 9 #[] w141 (Ret fun v w' => Ext w141 w' ∧ v = .bool r_187)) ∧
(∀ w189 : World, Ext w141 w189 →
R (.bool (((decide (r_1_139 = 0)) && (decide ((r_0_138.n : Int) = ((((((22 + (name_2.length : Int)) + 1) + (text_3.length : Int)) + 1) + (4 * (1 + r_7))) + 4)))) && r_187)) w189))))))
set_option maxHeartbeats 1000000 in
set_option maxRecDepth 10000 in
theorem law24_CodecStrings.ok (n_1 : Int) (name_2 : Str) (text_3 : Str) {R : Value → World → Prop} {w : World} (ht0 : law24_CodecStrings.vc n_1 name_2 text_3 R w) : Calls Try.prog 6 #[.int .i64 n_1, .string (Bs name_2), .string (Bs text_3)] w (Ret R) := by
  refine enter [.int .i64 n_1, .string (Bs name_2), .string (Bs text_3)] Try.func6 rfl Try.ntmps6 rfl ?_
  intro a0 hA0
  unfold law24_CodecStrings.vc at ht0
  refine wp_seq ?_
  refine wp_region_lit ?_
  refine sq (opk_val hA0 rfl (r_assign rfl) fun a4 hA4 _ => ?_)
  refine sq_end ?_
  have hA5 := hA4.keep [(0, .int .i64 n_1), (1, .string (Bs name_2)), (2, .string (Bs text_3))] ⟨rfl, rfl, rfl, trivial⟩
  refine then_normal ?_
  refine wp_seq ?_
  refine wp_region_lit ?_
  refine sq (opk_val hA5 rfl (r_move (hA5.get rfl)) fun a6 hA6 _ => ?_)
  refine sq (opk_call hA6 rfl (r_call (args := #[.int .i64 n_1, .int .i64 60]) Try.func19 (by decide) rfl (map_arr (ml_cons (hA6.get rfl) (ml_cons rfl ml_nil))) rfl) ht0 fun a8 v14 w9 hA8 _ hn11 hz12 hK13 => ?_)
  obtain ⟨r_7, rfl, ht10⟩ := hK13
  obtain ⟨hS16, ht17⟩ := ht10
  refine sq (opk_val hA8 rfl (r_addI rfl (hA8.get rfl) hS16) fun a15 hA15 _ => ?_)
  refine sq (opk_val hA15 rfl (r_assign (hA15.get rfl)) fun a18 hA18 _ => ?_)
  refine sq_end ?_
  have hA19 := hA18.keep [(1, .string (Bs name_2)), (2, .string (Bs text_3)), (7, .int .i64 (1 + r_7))] ⟨rfl, rfl, rfl, trivial⟩
  refine then_normal ?_
  refine wp_seq ?_
  refine wp_seq ?_
  refine wp_region_lit ?_
  refine sq (opk_val hA19 rfl (r_move (hA19.get rfl)) fun a20 hA20 _ => ?_)
  refine sq (opk_val hA20 rfl (r_slen (hA20.get rfl) Try.underlying9) fun a21 hA21 _ => ?_)
  refine sq (opk_val hA21 rfl (r_gtr (hA21.get rfl) rfl) fun a22 hA22 _ => ?_)
  refine sq (opk_val hA22 rfl (r_move (hA22.get rfl)) fun a23 hA23 _ => ?_)
  refine sq (opk_gval hA23 rfl rfl (g := true) (e := (decide (100 < (name_2.length : Int)))) rfl (fun hg => r_move (hA23.get rfl)) fun a24 hA24 _ => ?_)
  refine sq (opk_gval hA24 rfl rfl (g := true) (e := (decide (100 < (name_2.length : Int)))) rfl (fun hg => r_slen (cv_get (hA24.get rfl) hg) Try.underlying9) fun a25 hA25 _ => ?_)
  refine sq (opk_gval hA25 rfl rfl (g := true) (e := (decide (100 < (name_2.length : Int)))) rfl (fun hg => r_gtr (cv_get (hA25.get rfl) hg) rfl) fun a26 hA26 _ => ?_)
  refine sq (opk_val hA26 rfl (r_pick_or (g := (true && ((decide (100 < (name_2.length : Int))) == false))) (hA26.get rfl) (hA26.get rfl) (fun he => g_mkf rfl he)) fun a27 hA27 _ => ?_)
  refine sq (opk_val hA27 rfl (r_move (hA27.get rfl)) fun a28 hA28 _ => ?_)
  refine sq (opk_gval hA28 rfl rfl (g := true) (e := ((decide (100 < (name_2.length : Int))) || (decide (100 < (text_3.length : Int))))) rfl (fun hg => r_move (hA28.get rfl)) fun a29 hA29 _ => ?_)
  refine sq (opk_gval hA29 rfl rfl (g := true) (e := ((decide (100 < (name_2.length : Int))) || (decide (100 < (text_3.length : Int))))) rfl (fun hg => r_move (hA29.get rfl)) fun a30 hA30 _ => ?_)
  refine sq (opk_gval hA30 rfl rfl (g := true) (e := ((decide (100 < (name_2.length : Int))) || (decide (100 < (text_3.length : Int))))) rfl (fun hg => r_seql (cv_get (hA30.get rfl) hg) (cv_get (hA30.get rfl) hg)) fun a31 hA31 _ => ?_)
  refine sq (opk_val hA31 rfl (r_pick_or (g := (true && (((decide (100 < (name_2.length : Int))) || (decide (100 < (text_3.length : Int)))) == false))) (hA31.get rfl) (hA31.get rfl) (fun he => g_mkf rfl he)) fun a32 hA32 _ => ?_)
  refine sq_end ?_
  have hA33 := hA32.keep [(1, .string (Bs name_2)), (2, .string (Bs text_3)), (7, .int .i64 (1 + r_7)), (27, .bool (((decide (100 < (name_2.length : Int))) || (decide (100 < (text_3.length : Int)))) || (decide (name_2 = text_3))))] ⟨rfl, rfl, rfl, rfl, trivial⟩
  refine then_normal ?_
  refine wp_cond_split (hA33.get rfl) (fun hc => ?_) (fun hc => ?_)
  · have ht34 := ht17.1 ((b_or_t hc).imp (fun h => ((b_or_t h).imp (fun h => (of_decide_eq_true h)) (fun h => (of_decide_eq_true h)))) (fun h => (of_decide_eq_true h)))
    clear hc
    refine wp_seq ?_
    refine wp_region_lit ?_
    refine sq (opk_call hA33 rfl (r_call (args := #[]) Try.func9 (by decide) rfl (map_arr ml_nil) rfl) ht34 fun a37 v43 w38 hA37 _ hn40 hz41 hK42 => ?_)
    obtain ⟨r_36, rfl, ht39⟩ := hK42
    refine sq (opk_val hA37 rfl (r_assign (hA37.get rfl)) fun a44 hA44 _ => ?_)
    refine sq_end ?_
    have hA45 := hA44.keep [(6, .bool r_36)] ⟨rfl, trivial⟩
    refine then_normal ?_
    refine wp_ret ?_
    refine then_ret ?_
    exact res_all (vs := [.bool r_36]) rfl hA45 ⟨res_of_tmp hA45 rfl, trivial⟩ ht39
  · have ht35 := ht17.2 ⟨⟨(of_decide_eq_false (b_or_f (b_or_f hc).1).1), (of_decide_eq_false (b_or_f (b_or_f hc).1).2)⟩, (of_decide_eq_false (b_or_f hc).2)⟩
    clear hc
    refine wp_skip ?_
    refine then_normal ?_
    refine wp_seq ?_
    refine wp_region_lit ?_
    refine sq (opk_val hA33 rfl (r_assign rfl) fun a46 hA46 _ => ?_)
    refine sq_end ?_
    have hA47 := hA46.keep [(1, .string (Bs name_2)), (2, .string (Bs text_3)), (7, .int .i64 (1 + r_7)), (8, Sl.v Sl.nil)] ⟨rfl, rfl, rfl, rfl, trivial⟩
    refine then_normal ?_
    refine wp_seq ?_
    refine wp_seq ?_
    refine wp_region_lit ?_
    refine sq (opk_val hA47 rfl (r_assign rfl) fun a48 hA48 _ => ?_)
    refine sq_end ?_
    have hA49 := hA48.keep [(1, .string (Bs name_2)), (2, .string (Bs text_3)), (7, .int .i64 (1 + r_7)), (8, Sl.v Sl.nil), (9, .int .i64 0)] ⟨rfl, rfl, rfl, rfl, rfl, trivial⟩
    refine then_normal ?_
    refine wp_block ?_
    obtain ⟨J_53, mu_54, h095, ht94⟩ := ht35
    refine wp_loop_st (σ := Sl × Int × World) (fun s a w => Ag 68 a [(1, .string (Bs name_2)), (2, .string (Bs text_3)), (7, .int .i64 (1 + r_7)), (8, Sl.v s.1), (9, .int .i64 s.2.1)] ∧ w = s.2.2 ∧ J_53 s.1 s.2.1 s.2.2) (fun s => mu_54 s.1 s.2.1 s.2.2) (Sl.nil, 0, w9) ⟨hA49.keep [(1, .string (Bs name_2)), (2, .string (Bs text_3)), (7, .int .i64 (1 + r_7)), (8, Sl.v Sl.nil), (9, .int .i64 0)] ⟨rfl, rfl, rfl, rfl, rfl, trivial⟩, rfl, h095⟩ ?_
    rintro ⟨l_50, i_51, w52⟩ a93 w_ ⟨hA93, hw_, hJ97⟩
    have hw_ : w52 = w_ := hw_.symm
    subst hw_
    have ht96 := ht94 l_50 i_51 _ hJ97
    refine wp_seq ?_
    refine wp_seq ?_
    refine wp_region_lit ?_
    refine sq (opk_val hA93 rfl (r_move (hA93.get rfl)) fun a98 hA98 _ => ?_)
    refine sq (opk_val hA98 rfl (r_move (hA98.get rfl)) fun a99 hA99 _ => ?_)
    refine sq (opk_val hA99 rfl (r_lss (hA99.get rfl) (hA99.get rfl)) fun a100 hA100 _ => ?_)
    refine sq_end ?_
    have hA101 := hA100.keep [(1, .string (Bs name_2)), (2, .string (Bs text_3)), (7, .int .i64 (1 + r_7)), (8, Sl.v l_50), (9, .int .i64 i_51), (31, .bool (decide (i_51 < (1 + r_7))))] ⟨rfl, rfl, rfl, rfl, rfl, rfl, trivial⟩
    refine then_normal ?_
    refine wp_cond_split (hA101.get rfl) (fun hc => ?_) (fun hc => ?_)
    · have ht102 := ht96.1 (of_decide_eq_true hc)
      clear hc
      refine wp_skip ?_
      refine then_normal ?_
      refine wp_seq ?_
      refine wp_block ?_
      refine wp_region_lit ?_
      refine sq (opk_val hA101 rfl (r_move (hA101.get rfl)) fun a104 hA104 _ => ?_)
      refine sq (opk_val hA104 rfl (r_move (hA104.get rfl)) fun a105 hA105 _ => ?_)
      refine sq (opk_val hA105 rfl (r_move (hA105.get rfl)) fun a106 hA106 _ => ?_)
      refine sq (opk_val hA106 rfl (r_move (hA106.get rfl)) fun a107 hA107 _ => ?_)
      refine sq (opk_val hA107 rfl (r_build (vs := #[(0, .int .i64 4), (1, .int .i64 i_51), (5, .string (Bs name_2)), (6, .string (Bs text_3))]) (cells := #[.int .i64 4, .int .i64 i_51, .int .i64 0, .int .i64 0, .int .i64 0, .string (Bs name_2), .string (Bs text_3)]) (map_arr2 (ml2_cons rfl (ml2_cons (hA107.get rfl) (ml2_cons (hA107.get rfl) (ml2_cons (hA107.get rfl) (ml2_nil)))))) ti_42 Try.underlying42 pl_42 (by kernel_rfl)) fun a108 hA108 _ => ?_)
      refine sq (opk_new (fun B => .slice (some ⟨B, 0, none⟩) 1 1) hA108 rfl (r_buildSlice (vs := #[(0, .agg #[.int .i64 4, .int .i64 i_51, .int .i64 0, .int .i64 0, .int .i64 0, .string (Bs name_2), .string (Bs text_3)])]) (cs := [.int .i64 4, .int .i64 i_51, .int .i64 0, .int .i64 0, .int .i64 0, .string (Bs name_2), .string (Bs text_3)]) (map_arr2 (ml2_cons (hA108.get rfl) (ml2_nil))) Try.underlying23 ti_42 rfl rfl (by kernel_rfl)) fun a111 w110 B_109 hE112 hN113 hB114 hA111 _ => ?_)
      have hN115 : New w52 B_109 w110 := hN113
      have hC116 : Chg [] w52 w110 := hE112
      have ht117 := ht102 w110 B_109 hN115  hC116
      have ht118 := ht117 hB114
      refine sq (opk_run hA111 rfl (fun _ _ hr => r_append (hA111.get rfl) (hA111.get rfl) hr) ht118 fun a119 v125 w120 hA119 _ hn122 hz123 hK124 => ?_)
      obtain ⟨r_126, rfl, ht121⟩ := hK124
      refine sq (opk_val hA119 rfl (r_assign (hA119.get rfl)) fun a127 hA127 _ => ?_)
      refine sq_end ?_
      have hA128 := hA127.keep [(1, .string (Bs name_2)), (2, .string (Bs text_3)), (7, .int .i64 (1 + r_7)), (8, Sl.v r_126), (9, .int .i64 i_51)] ⟨rfl, rfl, rfl, rfl, rfl, trivial⟩
      refine block_normal ?_
      refine then_normal ?_
      refine wp_region_lit ?_
      refine sq (opk_val hA128 rfl (r_move (hA128.get rfl)) fun a129 hA129 _ => ?_)
      obtain ⟨hS131, ht132⟩ := ht121
      refine sq (opk_val hA129 rfl (r_addI (hA129.get rfl) rfl hS131) fun a130 hA130 _ => ?_)
      refine sq (opk_val hA130 rfl (r_assign (hA130.get rfl)) fun a133 hA133 _ => ?_)
      refine sq_end ?_
      have hA134 := hA133.keep [(1, .string (Bs name_2)), (2, .string (Bs text_3)), (7, .int .i64 (1 + r_7)), (8, Sl.v r_126), (9, .int .i64 (i_51 + 1))] ⟨rfl, rfl, rfl, rfl, rfl, trivial⟩
      have hA135 := hA134.keep [(1, .string (Bs name_2)), (2, .string (Bs text_3)), (7, .int .i64 (1 + r_7)), (8, Sl.v r_126), (9, .int .i64 (i_51 + 1))] ⟨rfl, rfl, rfl, rfl, rfl, trivial⟩
      exact then_normal ⟨(r_126, i_51 + 1, w120), ⟨hA135, rfl, ht132.1⟩, ht132.2⟩
    · have ht103 := ht96.2 (of_decide_eq_false hc)
      clear hc
      refine wp_exit ?_
      refine then_exit ?_
      refine then_exit ?_
      refine block_hit ?_
      have hA136 := hA101.keep [(1, .string (Bs name_2)), (2, .string (Bs text_3)), (7, .int .i64 (1 + r_7)), (8, Sl.v l_50)] ⟨rfl, rfl, rfl, rfl, trivial⟩
      refine then_normal ?_
      refine wp_seq ?_
      refine wp_region_lit ?_
      refine sq (opk_val hA136 rfl (r_move (hA136.get rfl)) fun a137 hA137 _ => ?_)
      refine sq (opk_call hA137 rfl (r_call (args := #[.int .u64 1, .int .u64 2, Sl.v l_50]) Try.func10 (by decide) rfl (map_arr (ml_cons rfl (ml_cons rfl (ml_cons (hA137.get rfl) ml_nil)))) rfl) ht103 fun a140 v146 w141 hA140 _ hn143 hz144 hK145 => ?_)
      obtain ⟨r_0_138, r_1_139, rfl, ht142⟩ := hK145
      refine sq (opk_val hA140 rfl (r_move (hA140.get rfl)) fun a147 hA147 _ => ?_)
      refine sq (opk_val hA147 rfl (r_extract (hA147.get rfl) rfl) fun a148 hA148 _ => ?_)
      refine sq (opk_val hA148 rfl (r_extract (hA148.get rfl) rfl) fun a149 hA149 _ => ?_)
      refine sq (opk_val hA149 rfl (r_assign (hA149.get rfl)) fun a150 hA150 _ => ?_)
      refine sq (opk_val hA150 rfl (r_assign (hA150.get rfl)) fun a151 hA151 _ => ?_)
      refine sq_end ?_
      have hA152 := hA151.keep [(1, .string (Bs name_2)), (2, .string (Bs text_3)), (7, .int .i64 (1 + r_7)), (10, Sl.v r_0_138), (11, .int .i64 r_1_139)] ⟨rfl, rfl, rfl, rfl, rfl, trivial⟩
      refine then_normal ?_
      refine wp_seq ?_
      refine wp_region_lit ?_
      refine sq (opk_val hA152 rfl (r_move (hA152.get rfl)) fun a153 hA153 _ => ?_)
      refine sq (opk_val hA153 rfl (r_eql (hA153.get rfl) rfl) fun a154 hA154 _ => ?_)
      refine sq (opk_val hA154 rfl (r_move (hA154.get rfl)) fun a155 hA155 _ => ?_)
      refine sq (opk_gval hA155 rfl rfl (g := true) (e := (decide (r_1_139 = 0))) rfl (fun hg => r_move (hA155.get rfl)) fun a156 hA156 _ => ?_)
      refine sq (opk_gval hA156 rfl rfl (g := true) (e := (decide (r_1_139 = 0))) rfl (fun hg => r_len (cv_get (hA156.get rfl) hg) Try.underlying24) fun a157 hA157 _ => ?_)
      refine sq (opk_gval hA157 rfl rfl (g := true) (e := (decide (r_1_139 = 0))) rfl (fun hg => r_move (hA157.get rfl)) fun a158 hA158 _ => ?_)
      refine sq (opk_gval hA158 rfl rfl (g := true) (e := (decide (r_1_139 = 0))) rfl (fun hg => r_slen (cv_get (hA158.get rfl) hg) Try.underlying9) fun a159 hA159 _ => ?_)
      obtain ⟨hS161, ht162⟩ := ht142
      refine sq (opk_gval hA159 rfl rfl (g := true) (e := (decide (r_1_139 = 0))) rfl (fun hg => r_addI rfl (cv_get (hA159.get rfl) hg) (hS161 (of_decide_eq_true (g_t hg)))) fun a160 hA160 _ => ?_)
      obtain ⟨hS164, ht165⟩ := ht162
      refine sq (opk_gval hA160 rfl rfl (g := true) (e := (decide (r_1_139 = 0))) rfl (fun hg => r_addI (cv_get (hA160.get rfl) hg) rfl (hS164 (of_decide_eq_true (g_t hg)))) fun a163 hA163 _ => ?_)
      refine sq (opk_gval hA163 rfl rfl (g := true) (e := (decide (r_1_139 = 0))) rfl (fun hg => r_move (hA163.get rfl)) fun a166 hA166 _ => ?_)
      refine sq (opk_gval hA166 rfl rfl (g := true) (e := (decide (r_1_139 = 0))) rfl (fun hg => r_slen (cv_get (hA166.get rfl) hg) Try.underlying9) fun a167 hA167 _ => ?_)
      obtain ⟨hS169, ht170⟩ := ht165
      refine sq (opk_gval hA167 rfl rfl (g := true) (e := (decide (r_1_139 = 0))) rfl (fun hg => r_addI (cv_get (hA167.get rfl) hg) (cv_get (hA167.get rfl) hg) (hS169 (of_decide_eq_true (g_t hg)))) fun a168 hA168 _ => ?_)
      obtain ⟨hS172, ht173⟩ := ht170
      refine sq (opk_gval hA168 rfl rfl (g := true) (e := (decide (r_1_139 = 0))) rfl (fun hg => r_addI (cv_get (hA168.get rfl) hg) rfl (hS172 (of_decide_eq_true (g_t hg)))) fun a171 hA171 _ => ?_)
      refine sq (opk_gval hA171 rfl rfl (g := true) (e := (decide (r_1_139 = 0))) rfl (fun hg => r_move (hA171.get rfl)) fun a174 hA174 _ => ?_)
      obtain ⟨hS176, ht177⟩ := ht173
      refine sq (opk_gval hA174 rfl rfl (g := true) (e := (decide (r_1_139 = 0))) rfl (fun hg => r_mulI rfl (cv_get (hA174.get rfl) hg) (hS176 (of_decide_eq_true (g_t hg)))) fun a175 hA175 _ => ?_)
      obtain ⟨hS179, ht180⟩ := ht177
      refine sq (opk_gval hA175 rfl rfl (g := true) (e := (decide (r_1_139 = 0))) rfl (fun hg => r_addI (cv_get (hA175.get rfl) hg) (cv_get (hA175.get rfl) hg) (hS179 (of_decide_eq_true (g_t hg)))) fun a178 hA178 _ => ?_)
      obtain ⟨hS182, ht183⟩ := ht180
      refine sq (opk_gval hA178 rfl rfl (g := true) (e := (decide (r_1_139 = 0))) rfl (fun hg => r_addI (cv_get (hA178.get rfl) hg) rfl (hS182 (of_decide_eq_true (g_t hg)))) fun a181 hA181 _ => ?_)
      refine sq (opk_gval hA181 rfl rfl (g := true) (e := (decide (r_1_139 = 0))) rfl (fun hg => r_eql (cv_get (hA181.get rfl) hg) (cv_get (hA181.get rfl) hg)) fun a184 hA184 _ => ?_)
      refine sq (opk_val hA184 rfl (r_pick_and (g := (true && ((decide (r_1_139 = 0)) == true))) (hA184.get rfl) (hA184.get rfl) (fun he => g_mkt rfl he)) fun a185 hA185 _ => ?_)
      refine sq (opk_val hA185 rfl (r_move (hA185.get rfl)) fun a186 hA186 _ => ?_)
      obtain ⟨r_187, hc191, ht190⟩ := ht183
      refine sq (opk_gcall hA186 rfl rfl (g := true) (e := ((decide (r_1_139 = 0)) && (decide ((r_0_138.n : Int) = ((((((22 + (name_2.length : Int)) + 1) + (text_3.length : Int)) + 1) + (4 * (1 + r_7))) + 4))))) rfl (fun hg => r_call (args := #[]) Try.func9 (by decide) rfl (map_arr ml_nil) rfl) (fun hg => hc191 ⟨(of_decide_eq_true (b_and_t (g_t hg)).1), (of_decide_eq_true (b_and_t (g_t hg)).2)⟩) fun a188 w189 hA188 _ hE192 => ?_)
      have hC193 : Chg [] w141 w189 := hE192
      have ht194 := ht190 w189 hE192
      refine sq (opk_val hA188 rfl (r_pick_and (g := (true && (((decide (r_1_139 = 0)) && (decide ((r_0_138.n : Int) = ((((((22 + (name_2.length : Int)) + 1) + (text_3.length : Int)) + 1) + (4 * (1 + r_7))) + 4)))) == true))) (hA188.get rfl) (hA188.get rfl) (fun he => g_mkt rfl he)) fun a195 hA195 _ => ?_)
      refine sq (opk_val hA195 rfl (r_assign (hA195.get rfl)) fun a196 hA196 _ => ?_)
      refine sq_end ?_
      have hA197 := hA196.keep [(6, .bool (((decide (r_1_139 = 0)) && (decide ((r_0_138.n : Int) = ((((((22 + (name_2.length : Int)) + 1) + (text_3.length : Int)) + 1) + (4 * (1 + r_7))) + 4)))) && r_187))] ⟨rfl, trivial⟩
      refine then_normal ?_
      refine wp_ret ?_
      exact res_all (vs := [.bool (((decide (r_1_139 = 0)) && (decide ((r_0_138.n : Int) = ((((((22 + (name_2.length : Int)) + 1) + (text_3.length : Int)) + 1) + (4 * (1 + r_7))) + 4)))) && r_187)]) rfl hA197 ⟨res_of_tmp hA197 rfl, trivial⟩ ht194

end Go.Proofs.Yteacalmdpoblpaa
