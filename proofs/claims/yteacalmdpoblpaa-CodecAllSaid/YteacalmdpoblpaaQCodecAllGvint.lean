/-
  PRINTED BY PROGRAM: for each function its condition (vc), and that this suffices (ok).
-/
import Derived.Test.YteacalmdpoblpaaQCodecAllGT
namespace Go.Proofs.Yteacalmdpoblpaa
open Go.RowKit
set_option linter.unusedVariables false

/-- The condition of topiary/vint.Put. -/
def vint_Put.vc (b_1 : Sl) (v_2 : Int) (R : Value → World → Prop) (w : World) : Prop :=
((0 : Int) ≤ (b_1.n : Int) ∧ ((b_1.n : Int) : Int) ≤ (b_1.n : Int) ∧ (b_1.n : Int) ≤ (b_1.c : Int)) ∧
∃ (J_18 : Sl → Int → World → Prop) (mu_19 : Sl → Int → World → Nat),
J_18 (Sl.cut b_1 1 0 (b_1.n : Int).toNat (b_1.n : Int).toNat) v_2 w ∧
(∀ (b_15 : Sl) (v_16 : Int) (w17 : World), J_18 b_15 v_16 w17 →
((128 ≤ v_16) →
∀ (w69 : World) (B_68 : Nat), New w17 B_68 w69 → Chg [] w17 w69 →
∀ (_ : Box w69 B_68 5 [.int .u8 (bits .or .u8 (IntKind.u8.wrap v_16) 128)]),
RunK Try.prog (Builtin.append_ #[24, 24] 24 #[Sl.v b_15, Sl.v (Sl.mk (some ⟨B_68, 0, none⟩) 1 1)]) w69 [] (fun v w79 => ∃ (r_85 : Sl), v = Sl.v r_85 ∧
J_18 r_85 (v_16 / 2 ^ 7) w79 ∧ mu_19 r_85 (v_16 / 2 ^ 7) w79 < mu_19 b_15 v_16 w17)) ∧
((¬ (128 ≤ v_16)) →
∀ (w98 : World) (B_97 : Nat), New w17 B_97 w98 → Chg [] w17 w98 →
∀ (_ : Box w98 B_97 5 [.int .u8 (IntKind.u8.wrap v_16)]),
RunK Try.prog (Builtin.append_ #[24, 24] 24 #[Sl.v b_15, Sl.v (Sl.mk (some ⟨B_97, 0, none⟩) 1 1)]) w98 [] (fun v w108 => ∃ (r_114 : Sl), v = Sl.v r_114 ∧
R (Sl.v r_114) w108)))
set_option maxHeartbeats 1000000 in
set_option maxRecDepth 10000 in
theorem vint_Put.ok (b_1 : Sl) (v_2 : Int) {R : Value → World → Prop} {w : World} (ht0 : vint_Put.vc b_1 v_2 R w) : Calls Try.prog 23 #[Sl.v b_1, .int .u64 v_2] w (Ret R) := by
  refine enter [Sl.v b_1, .int .u64 v_2] Try.func23 rfl Try.ntmps23 rfl ?_
  intro a0 hA0
  unfold vint_Put.vc at ht0
  refine wp_seq ?_
  refine wp_region_lit ?_
  refine sq (opk_val hA0 rfl (r_assign rfl) fun a3 hA3 _ => ?_)
  refine sq_end ?_
  have hA4 := hA3.keep [(0, Sl.v b_1), (1, .int .u64 v_2)] ⟨rfl, rfl, trivial⟩
  refine then_normal ?_
  refine wp_seq ?_
  refine wp_region_lit ?_
  refine sq (opk_val hA4 rfl (r_move (hA4.get rfl)) fun a5 hA5 _ => ?_)
  refine sq (opk_val hA5 rfl (r_move (hA5.get rfl)) fun a6 hA6 _ => ?_)
  refine sq (opk_val hA6 rfl (r_len (hA6.get rfl) Try.underlying24) fun a7 hA7 _ => ?_)
  refine sq (opk_val hA7 rfl (r_move (hA7.get rfl)) fun a8 hA8 _ => ?_)
  refine sq (opk_val hA8 rfl (r_len (hA8.get rfl) Try.underlying24) fun a9 hA9 _ => ?_)
  obtain ⟨hS11, ht12⟩ := ht0
  refine sq (opk_val hA9 rfl (r_slice3H (hA9.get rfl) (hA9.get rfl) (hA9.get rfl) Try.underlying24 ti_5 hS11) fun a10 hA10 _ => ?_)
  refine sq (opk_val hA10 rfl (r_assign (hA10.get rfl)) fun a13 hA13 _ => ?_)
  refine sq_end ?_
  have hA14 := hA13.keep [(0, Sl.v (Sl.cut b_1 1 0 (b_1.n : Int).toNat (b_1.n : Int).toNat)), (1, .int .u64 v_2)] ⟨rfl, rfl, trivial⟩
  refine then_normal ?_
  refine wp_seq ?_
  refine wp_block ?_
  obtain ⟨J_18, mu_19, h056, ht55⟩ := ht12
  refine wp_loop_st (σ := Sl × Int × World) (fun s a w => Ag 26 a [(0, Sl.v s.1), (1, .int .u64 s.2.1)] ∧ w = s.2.2 ∧ J_18 s.1 s.2.1 s.2.2) (fun s => mu_19 s.1 s.2.1 s.2.2) (Sl.cut b_1 1 0 (b_1.n : Int).toNat (b_1.n : Int).toNat, v_2, w) ⟨hA14.keep [(0, Sl.v (Sl.cut b_1 1 0 (b_1.n : Int).toNat (b_1.n : Int).toNat)), (1, .int .u64 v_2)] ⟨rfl, rfl, trivial⟩, rfl, h056⟩ ?_
  rintro ⟨b_15, v_16, w17⟩ a54 w_ ⟨hA54, hw_, hJ58⟩
  have hw_ : w17 = w_ := hw_.symm
  subst hw_
  have ht57 := ht55 b_15 v_16 _ hJ58
  refine wp_seq ?_
  refine wp_seq ?_
  refine wp_region_lit ?_
  refine sq (opk_val hA54 rfl (r_move (hA54.get rfl)) fun a59 hA59 _ => ?_)
  refine sq (opk_val hA59 rfl (r_geq (hA59.get rfl) rfl) fun a60 hA60 _ => ?_)
  refine sq_end ?_
  have hA61 := hA60.keep [(0, Sl.v b_15), (1, .int .u64 v_16), (12, .bool (decide (128 ≤ v_16)))] ⟨rfl, rfl, rfl, trivial⟩
  refine then_normal ?_
  refine wp_cond_split (hA61.get rfl) (fun hc => ?_) (fun hc => ?_)
  · have ht62 := ht57.1 (of_decide_eq_true hc)
    clear hc
    refine wp_skip ?_
    refine then_normal ?_
    refine wp_block ?_
    refine wp_seq ?_
    refine wp_region_lit ?_
    refine sq (opk_val hA61 rfl (r_move (hA61.get rfl)) fun a64 hA64 _ => ?_)
    refine sq (opk_val hA64 rfl (r_move (hA64.get rfl)) fun a65 hA65 _ => ?_)
    refine sq (opk_val hA65 rfl (r_conv (hA65.get rfl) rfl Try.underlying5) fun a66 hA66 _ => ?_)
    refine sq (opk_val hA66 rfl (r_bor (hA66.get rfl) rfl) fun a67 hA67 _ => ?_)
    refine sq (opk_new (fun B => .slice (some ⟨B, 0, none⟩) 1 1) hA67 rfl (r_buildSlice (vs := #[(0, .int .u8 (bits .or .u8 (IntKind.u8.wrap v_16) 128))]) (cs := [.int .u8 (bits .or .u8 (IntKind.u8.wrap v_16) 128)]) (map_arr2 (ml2_cons (hA67.get rfl) (ml2_nil))) Try.underlying24 ti_5 rfl rfl (by kernel_rfl)) fun a70 w69 B_68 hE71 hN72 hB73 hA70 _ => ?_)
    have hN74 : New w17 B_68 w69 := hN72
    have hC75 : Chg [] w17 w69 := hE71
    have ht76 := ht62 w69 B_68 hN74  hC75
    have ht77 := ht76 hB73
    refine sq (opk_run hA70 rfl (fun _ _ hr => r_append (hA70.get rfl) (hA70.get rfl) hr) ht77 fun a78 v84 w79 hA78 _ hn81 hz82 hK83 => ?_)
    obtain ⟨r_85, rfl, ht80⟩ := hK83
    refine sq (opk_val hA78 rfl (r_assign (hA78.get rfl)) fun a86 hA86 _ => ?_)
    refine sq_end ?_
    have hA87 := hA86.keep [(0, Sl.v r_85), (1, .int .u64 v_16)] ⟨rfl, rfl, trivial⟩
    refine then_normal ?_
    refine wp_region_lit ?_
    refine sq (opk_val hA87 rfl (r_move (hA87.get rfl)) fun a88 hA88 _ => ?_)
    refine sq (opk_val hA88 rfl (r_shr (hA88.get rfl) rfl (by decide) (by decide)) fun a89 hA89 _ => ?_)
    refine sq (opk_val hA89 rfl (r_assign (hA89.get rfl)) fun a90 hA90 _ => ?_)
    refine sq_end ?_
    have hA91 := hA90.keep [(0, Sl.v r_85), (1, .int .u64 (v_16 / 2 ^ 7))] ⟨rfl, rfl, trivial⟩
    refine block_normal ?_
    have hA92 := hA91.keep [(0, Sl.v r_85), (1, .int .u64 (v_16 / 2 ^ 7))] ⟨rfl, rfl, trivial⟩
    exact then_normal ⟨(r_85, v_16 / 2 ^ 7, w79), ⟨hA92, rfl, ht80.1⟩, ht80.2⟩
  · have ht63 := ht57.2 (of_decide_eq_false hc)
    clear hc
    refine wp_exit ?_
    refine then_exit ?_
    refine then_exit ?_
    refine block_hit ?_
    have hA93 := hA61.keep [(0, Sl.v b_15), (1, .int .u64 v_16)] ⟨rfl, rfl, trivial⟩
    refine then_normal ?_
    refine wp_seq ?_
    refine wp_region_lit ?_
    refine sq (opk_val hA93 rfl (r_move (hA93.get rfl)) fun a94 hA94 _ => ?_)
    refine sq (opk_val hA94 rfl (r_move (hA94.get rfl)) fun a95 hA95 _ => ?_)
    refine sq (opk_val hA95 rfl (r_conv (hA95.get rfl) rfl Try.underlying5) fun a96 hA96 _ => ?_)
    refine sq (opk_new (fun B => .slice (some ⟨B, 0, none⟩) 1 1) hA96 rfl (r_buildSlice (vs := #[(0, .int .u8 (IntKind.u8.wrap v_16))]) (cs := [.int .u8 (IntKind.u8.wrap v_16)]) (map_arr2 (ml2_cons (hA96.get rfl) (ml2_nil))) Try.underlying24 ti_5 rfl rfl (by kernel_rfl)) fun a99 w98 B_97 hE100 hN101 hB102 hA99 _ => ?_)
    have hN103 : New w17 B_97 w98 := hN101
    have hC104 : Chg [] w17 w98 := hE100
    have ht105 := ht63 w98 B_97 hN103  hC104
    have ht106 := ht105 hB102
    refine sq (opk_run hA99 rfl (fun _ _ hr => r_append (hA99.get rfl) (hA99.get rfl) hr) ht106 fun a107 v113 w108 hA107 _ hn110 hz111 hK112 => ?_)
    obtain ⟨r_114, rfl, ht109⟩ := hK112
    refine sq (opk_val hA107 rfl (r_assign (hA107.get rfl)) fun a115 hA115 _ => ?_)
    refine sq_end ?_
    have hA116 := hA115.keep [(4, Sl.v r_114)] ⟨rfl, trivial⟩
    refine then_normal ?_
    refine wp_ret ?_
    exact res_all (vs := [Sl.v r_114]) rfl hA116 ⟨res_of_tmp hA116 rfl, trivial⟩ ht109

/-- The condition of topiary/vint.PutText. -/
def vint_PutText.vc (b_1 : Sl) (s_2 : Str) (R : Value → World → Prop) (w : World) : Prop :=
CallK Try.prog 23 #[Sl.v b_1, .int .u64 (IntKind.u64.wrap (s_2.length : Int))] w [] (fun v w11 => ∃ (r_9 : Sl), v = Sl.v r_9 ∧
RunK Try.prog (Builtin.append_ #[24, 9] 24 #[Sl.v r_9, .string (Bs s_2)]) w11 [] (fun v w19 => ∃ (r_25 : Sl), v = Sl.v r_25 ∧
R (Sl.v r_25) w19))
set_option maxHeartbeats 1000000 in
set_option maxRecDepth 10000 in
theorem vint_PutText.ok (b_1 : Sl) (s_2 : Str) {R : Value → World → Prop} {w : World} (ht0 : vint_PutText.vc b_1 s_2 R w) : Calls Try.prog 24 #[Sl.v b_1, .string (Bs s_2)] w (Ret R) := by
  refine enter [Sl.v b_1, .string (Bs s_2)] Try.func24 rfl Try.ntmps24 rfl ?_
  intro a0 hA0
  unfold vint_PutText.vc at ht0
  refine wp_seq ?_
  refine wp_region_lit ?_
  refine sq (opk_val hA0 rfl (r_assign rfl) fun a3 hA3 _ => ?_)
  refine sq_end ?_
  have hA4 := hA3.keep [(0, Sl.v b_1), (1, .string (Bs s_2))] ⟨rfl, rfl, trivial⟩
  refine then_normal ?_
  refine wp_seq ?_
  refine wp_region_lit ?_
  refine sq (opk_val hA4 rfl (r_move (hA4.get rfl)) fun a5 hA5 _ => ?_)
  refine sq (opk_val hA5 rfl (r_move (hA5.get rfl)) fun a6 hA6 _ => ?_)
  refine sq (opk_val hA6 rfl (r_slen (hA6.get rfl) Try.underlying9) fun a7 hA7 _ => ?_)
  refine sq (opk_val hA7 rfl (r_conv (hA7.get rfl) rfl Try.underlying22) fun a8 hA8 _ => ?_)
  refine sq (opk_call hA8 rfl (r_call (args := #[Sl.v b_1, .int .u64 (IntKind.u64.wrap (s_2.length : Int))]) Try.func23 (by decide) rfl (map_arr (ml_cons (hA8.get rfl) (ml_cons (hA8.get rfl) ml_nil))) rfl) ht0 fun a10 v16 w11 hA10 _ hn13 hz14 hK15 => ?_)
  obtain ⟨r_9, rfl, ht12⟩ := hK15
  refine sq (opk_val hA10 rfl (r_move (hA10.get rfl)) fun a17 hA17 _ => ?_)
  refine sq (opk_run hA17 rfl (fun _ _ hr => r_append (hA17.get rfl) (hA17.get rfl) hr) ht12 fun a18 v24 w19 hA18 _ hn21 hz22 hK23 => ?_)
  obtain ⟨r_25, rfl, ht20⟩ := hK23
  refine sq (opk_val hA18 rfl (r_assign (hA18.get rfl)) fun a26 hA26 _ => ?_)
  refine sq_end ?_
  have hA27 := hA26.keep [(4, Sl.v r_25)] ⟨rfl, trivial⟩
  refine then_normal ?_
  refine wp_ret ?_
  exact res_all (vs := [Sl.v r_25]) rfl hA27 ⟨res_of_tmp hA27 rfl, trivial⟩ ht20

/-- The condition of topiary/vint.Get. -/
def vint_Get.vc (b_1 : Sl) (at_2 : Int) (R : Value → World → Prop) (w : World) : Prop :=
(((at_2 < 0) ∨ ((b_1.n : Int) < at_2)) →
R (.tuple #[.int .u64 0, .int .i64 0, .int .i64 1]) w) ∧
(((¬ (at_2 < 0)) ∧ (¬ ((b_1.n : Int) < at_2))) →
(I64 ((b_1.n : Int) - at_2)) ∧
(I64 (at_2 + (min ((b_1.n : Int) - at_2) 10))) ∧
((0 : Int) ≤ at_2 ∧ (at_2 : Int) ≤ at_2 + (min ((b_1.n : Int) - at_2) 10) ∧ at_2 + (min ((b_1.n : Int) - at_2) 10) ≤ (b_1.c : Int)) ∧
∃ (J_46 : Int → Int → World → Prop) (mu_47 : Int → Int → World → Nat),
J_46 0 0 w ∧
(∀ (v_43 : Int) (x_44 : Int) (w45 : World), J_46 v_43 x_44 w45 →
((x_44 < ((Sl.cut b_1 1 at_2.toNat (at_2 + (min ((b_1.n : Int) - at_2) 10)).toNat b_1.c).n : Int)) →
((0 : Int) ≤ x_44 ∧ x_44 < ((Sl.cut b_1 1 at_2.toNat (at_2 + (min ((b_1.n : Int) - at_2) 10)).toNat b_1.c).n : Int)) ∧ ∃ p_140 : Addr, (Sl.cut b_1 1 at_2.toNat (at_2 + (min ((b_1.n : Int) - at_2) 10)).toNat b_1.c).a = some p_140 ∧
∃ (x_146 : Int), (w45.cell? (p_140.add (x_44.toNat * 1)) = some (.int .u8 x_146)) ∧
(((x_44 = 9) ∧ (1 < x_146)) →
R (.tuple #[.int .u64 0, .int .i64 0, .int .i64 10]) w45) ∧
(((¬ (x_44 = 9)) ∨ (¬ (1 < x_146))) →
(I64 (7 * x_44)) ∧
((0 : Int) ≤ (7 * x_44) ∧ (7 * x_44) ≤ 64) ∧
((128 ≤ x_146) →
(I64 (x_44 + 1)) ∧
J_46 (bits .or .u64 v_43 (IntKind.u64.wrap ((IntKind.u64.wrap (bits .andNot .u8 x_146 128)) * 2 ^ (7 * x_44).toNat))) (x_44 + 1) w45 ∧ mu_47 (bits .or .u64 v_43 (IntKind.u64.wrap ((IntKind.u64.wrap (bits .andNot .u8 x_146 128)) * 2 ^ (7 * x_44).toNat))) (x_44 + 1) w45 < mu_47 v_43 x_44 w45) ∧
((¬ (128 ≤ x_146)) →
(((x_146 = 0) ∧ (0 < x_44)) →
R (.tuple #[.int .u64 0, .int .i64 0, .int .i64 10]) w45) ∧
(((¬ (x_146 = 0)) ∨ (¬ (0 < x_44))) →
(I64 (at_2 + x_44)) ∧
(I64 ((at_2 + x_44) + 1)) ∧
R (.tuple #[.int .u64 (bits .or .u64 v_43 (IntKind.u64.wrap ((IntKind.u64.wrap (bits .andNot .u8 x_146 128)) * 2 ^ (7 * x_44).toNat))), .int .i64 ((at_2 + x_44) + 1), .int .i64 0]) w45)))) ∧
((¬ (x_44 < ((Sl.cut b_1 1 at_2.toNat (at_2 + (min ((b_1.n : Int) - at_2) 10)).toNat b_1.c).n : Int))) →
R (.tuple #[.int .u64 0, .int .i64 0, .int .i64 9]) w45)))
set_option maxHeartbeats 1000000 in
set_option maxRecDepth 10000 in
theorem vint_Get.ok (b_1 : Sl) (at_2 : Int) {R : Value → World → Prop} {w : World} (ht0 : vint_Get.vc b_1 at_2 R w) : Calls Try.prog 46 #[Sl.v b_1, .int .i64 at_2] w (Ret R) := by
  refine enter [Sl.v b_1, .int .i64 at_2] Try.func46 rfl Try.ntmps46 rfl ?_
  intro a0 hA0
  unfold vint_Get.vc at ht0
  refine wp_seq ?_
  refine wp_region_lit ?_
  refine sq (opk_val hA0 rfl (r_assign rfl) fun a3 hA3 _ => ?_)
  refine sq (opk_val hA3 rfl (r_assign rfl) fun a4 hA4 _ => ?_)
  refine sq (opk_val hA4 rfl (r_assign rfl) fun a5 hA5 _ => ?_)
  refine sq_end ?_
  have hA6 := hA5.keep [(0, Sl.v b_1), (1, .int .i64 at_2)] ⟨rfl, rfl, trivial⟩
  refine then_normal ?_
  refine wp_seq ?_
  refine wp_seq ?_
  refine wp_region_lit ?_
  refine sq (opk_val hA6 rfl (r_move (hA6.get rfl)) fun a7 hA7 _ => ?_)
  refine sq (opk_val hA7 rfl (r_lss (hA7.get rfl) rfl) fun a8 hA8 _ => ?_)
  refine sq (opk_val hA8 rfl (r_move (hA8.get rfl)) fun a9 hA9 _ => ?_)
  refine sq (opk_gval hA9 rfl rfl (g := true) (e := (decide (at_2 < 0))) rfl (fun hg => r_move (hA9.get rfl)) fun a10 hA10 _ => ?_)
  refine sq (opk_gval hA10 rfl rfl (g := true) (e := (decide (at_2 < 0))) rfl (fun hg => r_move (hA10.get rfl)) fun a11 hA11 _ => ?_)
  refine sq (opk_gval hA11 rfl rfl (g := true) (e := (decide (at_2 < 0))) rfl (fun hg => r_len (cv_get (hA11.get rfl) hg) Try.underlying24) fun a12 hA12 _ => ?_)
  refine sq (opk_gval hA12 rfl rfl (g := true) (e := (decide (at_2 < 0))) rfl (fun hg => r_gtr (cv_get (hA12.get rfl) hg) (cv_get (hA12.get rfl) hg)) fun a13 hA13 _ => ?_)
  refine sq (opk_val hA13 rfl (r_pick_or (g := (true && ((decide (at_2 < 0)) == false))) (hA13.get rfl) (hA13.get rfl) (fun he => g_mkf rfl he)) fun a14 hA14 _ => ?_)
  refine sq_end ?_
  have hA15 := hA14.keep [(0, Sl.v b_1), (1, .int .i64 at_2), (17, .bool ((decide (at_2 < 0)) || (decide ((b_1.n : Int) < at_2))))] ⟨rfl, rfl, rfl, trivial⟩
  refine then_normal ?_
  refine wp_cond_split (hA15.get rfl) (fun hc => ?_) (fun hc => ?_)
  · have ht16 := ht0.1 ((b_or_t hc).imp (fun h => (of_decide_eq_true h)) (fun h => (of_decide_eq_true h)))
    clear hc
    refine wp_seq ?_
    refine wp_region_lit ?_
    refine sq (opk_val hA15 rfl (r_assign rfl) fun a18 hA18 _ => ?_)
    refine sq (opk_val hA18 rfl (r_assign rfl) fun a19 hA19 _ => ?_)
    refine sq (opk_val hA19 rfl (r_assign rfl) fun a20 hA20 _ => ?_)
    refine sq_end ?_
    have hA21 := hA20.keep [(4, .int .u64 0), (5, .int .i64 0), (6, .int .i64 1)] ⟨rfl, rfl, rfl, trivial⟩
    refine then_normal ?_
    refine wp_ret ?_
    refine then_ret ?_
    exact res_all (vs := [.int .u64 0, .int .i64 0, .int .i64 1]) rfl hA21 ⟨res_of_tmp hA21 rfl, res_of_tmp hA21 rfl, res_of_tmp hA21 rfl, trivial⟩ ht16
  · have ht17 := ht0.2 ⟨(of_decide_eq_false (b_or_f hc).1), (of_decide_eq_false (b_or_f hc).2)⟩
    clear hc
    refine wp_skip ?_
    refine then_normal ?_
    refine wp_seq ?_
    refine wp_region_lit ?_
    refine sq (opk_val hA15 rfl (r_assign rfl) fun a22 hA22 _ => ?_)
    refine sq_end ?_
    have hA23 := hA22.keep [(0, Sl.v b_1), (1, .int .i64 at_2), (7, .int .u64 0)] ⟨rfl, rfl, rfl, trivial⟩
    refine then_normal ?_
    refine wp_seq ?_
    refine wp_seq ?_
    refine wp_region_lit ?_
    refine sq (opk_val hA23 rfl (r_move (hA23.get rfl)) fun a24 hA24 _ => ?_)
    refine sq (opk_val hA24 rfl (r_move (hA24.get rfl)) fun a25 hA25 _ => ?_)
    refine sq (opk_val hA25 rfl (r_move (hA25.get rfl)) fun a26 hA26 _ => ?_)
    refine sq (opk_val hA26 rfl (r_move (hA26.get rfl)) fun a27 hA27 _ => ?_)
    refine sq (opk_val hA27 rfl (r_len (hA27.get rfl) Try.underlying24) fun a28 hA28 _ => ?_)
    refine sq (opk_val hA28 rfl (r_move (hA28.get rfl)) fun a29 hA29 _ => ?_)
    obtain ⟨hS31, ht32⟩ := ht17
    refine sq (opk_val hA29 rfl (r_subI (hA29.get rfl) (hA29.get rfl) hS31) fun a30 hA30 _ => ?_)
    refine sq (opk_val hA30 rfl (r_min (hA30.get rfl) rfl) fun a33 hA33 _ => ?_)
    obtain ⟨hS35, ht36⟩ := ht32
    refine sq (opk_val hA33 rfl (r_addI (hA33.get rfl) (hA33.get rfl) hS35) fun a34 hA34 _ => ?_)
    obtain ⟨hS38, ht39⟩ := ht36
    refine sq (opk_val hA34 rfl (r_slice2 (hA34.get rfl) (hA34.get rfl) (hA34.get rfl) Try.underlying24 ti_5 hS38) fun a37 hA37 _ => ?_)
    refine sq (opk_val hA37 rfl (r_len (hA37.get rfl) Try.underlying24) fun a40 hA40 _ => ?_)
    refine sq (opk_val hA40 rfl (r_move rfl) fun a41 hA41 _ => ?_)
    refine sq_end ?_
    have hA42 := hA41.keep [(1, .int .i64 at_2), (7, .int .u64 0), (27, Sl.v (Sl.cut b_1 1 at_2.toNat (at_2 + (min ((b_1.n : Int) - at_2) 10)).toNat b_1.c)), (28, .int .i64 ((Sl.cut b_1 1 at_2.toNat (at_2 + (min ((b_1.n : Int) - at_2) 10)).toNat b_1.c).n : Int)), (29, .int .i64 0)] ⟨rfl, rfl, rfl, rfl, rfl, trivial⟩
    refine then_normal ?_
    refine wp_block ?_
    obtain ⟨J_46, mu_47, h0132, ht131⟩ := ht39
    refine wp_loop_st (σ := Int × Int × World) (fun s a w => Ag 62 a [(1, .int .i64 at_2), (7, .int .u64 s.1), (27, Sl.v (Sl.cut b_1 1 at_2.toNat (at_2 + (min ((b_1.n : Int) - at_2) 10)).toNat b_1.c)), (28, .int .i64 ((Sl.cut b_1 1 at_2.toNat (at_2 + (min ((b_1.n : Int) - at_2) 10)).toNat b_1.c).n : Int)), (29, .int .i64 s.2.1)] ∧ w = s.2.2 ∧ J_46 s.1 s.2.1 s.2.2) (fun s => mu_47 s.1 s.2.1 s.2.2) (0, 0, w) ⟨hA42.keep [(1, .int .i64 at_2), (7, .int .u64 0), (27, Sl.v (Sl.cut b_1 1 at_2.toNat (at_2 + (min ((b_1.n : Int) - at_2) 10)).toNat b_1.c)), (28, .int .i64 ((Sl.cut b_1 1 at_2.toNat (at_2 + (min ((b_1.n : Int) - at_2) 10)).toNat b_1.c).n : Int)), (29, .int .i64 0)] ⟨rfl, rfl, rfl, rfl, rfl, trivial⟩, rfl, h0132⟩ ?_
    rintro ⟨v_43, x_44, w45⟩ a130 w_ ⟨hA130, hw_, hJ134⟩
    have hw_ : w45 = w_ := hw_.symm
    subst hw_
    have ht133 := ht131 v_43 x_44 _ hJ134
    refine wp_seq ?_
    refine wp_region_lit ?_
    refine sq (opk_val hA130 rfl (r_lss (hA130.get rfl) (hA130.get rfl)) fun a135 hA135 _ => ?_)
    refine sq_end ?_
    have hA136 := hA135.keep [(1, .int .i64 at_2), (7, .int .u64 v_43), (27, Sl.v (Sl.cut b_1 1 at_2.toNat (at_2 + (min ((b_1.n : Int) - at_2) 10)).toNat b_1.c)), (28, .int .i64 ((Sl.cut b_1 1 at_2.toNat (at_2 + (min ((b_1.n : Int) - at_2) 10)).toNat b_1.c).n : Int)), (29, .int .i64 x_44), (30, .bool (decide (x_44 < ((Sl.cut b_1 1 at_2.toNat (at_2 + (min ((b_1.n : Int) - at_2) 10)).toNat b_1.c).n : Int))))] ⟨rfl, rfl, rfl, rfl, rfl, rfl, trivial⟩
    refine then_normal ?_
    refine wp_seq ?_
    refine wp_cond_split (hA136.get rfl) (fun hc => ?_) (fun hc => ?_)
    · have ht137 := ht133.1 (of_decide_eq_true hc)
      clear hc
      refine wp_skip ?_
      refine then_normal ?_
      refine wp_seq ?_
      refine wp_block ?_
      refine wp_seq ?_
      refine wp_region_lit ?_
      refine sq (opk_val hA136 rfl (r_move (hA136.get rfl)) fun a139 hA139 _ => ?_)
      obtain ⟨hb141, p_140, hp142, ht143⟩ := ht137
      refine sq (opk_val hA139 rfl (r_indexAddr (hA139.get rfl) (hA139.get rfl) Try.underlying24 ti_5 hb141 hp142) fun a144 hA144 _ => ?_)
      obtain ⟨x_146, hx147, ht148⟩ := ht143
      refine sq (opk_val hA144 rfl (r_load1 Try.underlying5 rfl (hA144.get rfl) hx147) fun a145 hA145 _ => ?_)
      refine sq (opk_val hA145 rfl (r_assign (hA145.get rfl)) fun a149 hA149 _ => ?_)
      refine sq (opk_val hA149 rfl (r_assign (hA149.get rfl)) fun a150 hA150 _ => ?_)
      refine sq_end ?_
      have hA151 := hA150.keep [(1, .int .i64 at_2), (7, .int .u64 v_43), (8, .int .i64 x_44), (9, .int .u8 x_146), (27, Sl.v (Sl.cut b_1 1 at_2.toNat (at_2 + (min ((b_1.n : Int) - at_2) 10)).toNat b_1.c)), (28, .int .i64 ((Sl.cut b_1 1 at_2.toNat (at_2 + (min ((b_1.n : Int) - at_2) 10)).toNat b_1.c).n : Int)), (29, .int .i64 x_44)] ⟨rfl, rfl, rfl, rfl, rfl, rfl, rfl, trivial⟩
      refine then_normal ?_
      refine wp_seq ?_
      refine wp_seq ?_
      refine wp_region_lit ?_
      refine sq (opk_val hA151 rfl (r_move (hA151.get rfl)) fun a152 hA152 _ => ?_)
      refine sq (opk_val hA152 rfl (r_eql (hA152.get rfl) rfl) fun a153 hA153 _ => ?_)
      refine sq (opk_val hA153 rfl (r_move (hA153.get rfl)) fun a154 hA154 _ => ?_)
      refine sq (opk_gval hA154 rfl rfl (g := true) (e := (decide (x_44 = 9))) rfl (fun hg => r_move (hA154.get rfl)) fun a155 hA155 _ => ?_)
      refine sq (opk_gval hA155 rfl rfl (g := true) (e := (decide (x_44 = 9))) rfl (fun hg => r_gtr (cv_get (hA155.get rfl) hg) rfl) fun a156 hA156 _ => ?_)
      refine sq (opk_val hA156 rfl (r_pick_and (g := (true && ((decide (x_44 = 9)) == true))) (hA156.get rfl) (hA156.get rfl) (fun he => g_mkt rfl he)) fun a157 hA157 _ => ?_)
      refine sq_end ?_
      have hA158 := hA157.keep [(1, .int .i64 at_2), (7, .int .u64 v_43), (8, .int .i64 x_44), (9, .int .u8 x_146), (27, Sl.v (Sl.cut b_1 1 at_2.toNat (at_2 + (min ((b_1.n : Int) - at_2) 10)).toNat b_1.c)), (28, .int .i64 ((Sl.cut b_1 1 at_2.toNat (at_2 + (min ((b_1.n : Int) - at_2) 10)).toNat b_1.c).n : Int)), (29, .int .i64 x_44), (39, .bool ((decide (x_44 = 9)) && (decide (1 < x_146))))] ⟨rfl, rfl, rfl, rfl, rfl, rfl, rfl, rfl, trivial⟩
      refine then_normal ?_
      refine wp_cond_split (hA158.get rfl) (fun hc => ?_) (fun hc => ?_)
      · have ht159 := ht148.1 ⟨(of_decide_eq_true (b_and_t hc).1), (of_decide_eq_true (b_and_t hc).2)⟩
        clear hc
        refine wp_seq ?_
        refine wp_region_lit ?_
        refine sq (opk_val hA158 rfl (r_assign rfl) fun a161 hA161 _ => ?_)
        refine sq (opk_val hA161 rfl (r_assign rfl) fun a162 hA162 _ => ?_)
        refine sq (opk_val hA162 rfl (r_assign rfl) fun a163 hA163 _ => ?_)
        refine sq_end ?_
        have hA164 := hA163.keep [(4, .int .u64 0), (5, .int .i64 0), (6, .int .i64 10)] ⟨rfl, rfl, rfl, trivial⟩
        refine then_normal ?_
        refine wp_ret ?_
        refine then_ret ?_
        refine block_ret ?_
        refine then_ret ?_
        refine then_ret ?_
        refine block_ret ?_
        refine then_ret ?_
        exact res_all (vs := [.int .u64 0, .int .i64 0, .int .i64 10]) rfl hA164 ⟨res_of_tmp hA164 rfl, res_of_tmp hA164 rfl, res_of_tmp hA164 rfl, trivial⟩ ht159
      · have ht160 := ht148.2 ((b_and_f hc).imp (fun h => (of_decide_eq_false h)) (fun h => (of_decide_eq_false h)))
        clear hc
        refine wp_skip ?_
        refine then_normal ?_
        refine wp_seq ?_
        refine wp_region_lit ?_
        refine sq (opk_val hA158 rfl (r_move (hA158.get rfl)) fun a165 hA165 _ => ?_)
        refine sq (opk_val hA165 rfl (r_move (hA165.get rfl)) fun a166 hA166 _ => ?_)
        refine sq (opk_val hA166 rfl (r_andNot (hA166.get rfl) rfl) fun a167 hA167 _ => ?_)
        refine sq (opk_val hA167 rfl (r_conv (hA167.get rfl) rfl Try.underlying22) fun a168 hA168 _ => ?_)
        refine sq (opk_val hA168 rfl (r_move (hA168.get rfl)) fun a169 hA169 _ => ?_)
        obtain ⟨hS171, ht172⟩ := ht160
        refine sq (opk_val hA169 rfl (r_mulI rfl (hA169.get rfl) hS171) fun a170 hA170 _ => ?_)
        obtain ⟨hS174, ht175⟩ := ht172
        refine sq (opk_val hA170 rfl (r_shl (hA170.get rfl) (hA170.get rfl) hS174.1 hS174.2) fun a173 hA173 _ => ?_)
        refine sq (opk_val hA173 rfl (r_bor (hA173.get rfl) (hA173.get rfl)) fun a176 hA176 _ => ?_)
        refine sq (opk_val hA176 rfl (r_assign (hA176.get rfl)) fun a177 hA177 _ => ?_)
        refine sq_end ?_
        have hA178 := hA177.keep [(1, .int .i64 at_2), (7, .int .u64 (bits .or .u64 v_43 (IntKind.u64.wrap ((IntKind.u64.wrap (bits .andNot .u8 x_146 128)) * 2 ^ (7 * x_44).toNat)))), (8, .int .i64 x_44), (9, .int .u8 x_146), (27, Sl.v (Sl.cut b_1 1 at_2.toNat (at_2 + (min ((b_1.n : Int) - at_2) 10)).toNat b_1.c)), (28, .int .i64 ((Sl.cut b_1 1 at_2.toNat (at_2 + (min ((b_1.n : Int) - at_2) 10)).toNat b_1.c).n : Int)), (29, .int .i64 x_44)] ⟨rfl, rfl, rfl, rfl, rfl, rfl, rfl, trivial⟩
        refine then_normal ?_
        refine wp_seq ?_
        refine wp_seq ?_
        refine wp_region_lit ?_
        refine sq (opk_val hA178 rfl (r_move (hA178.get rfl)) fun a179 hA179 _ => ?_)
        refine sq (opk_val hA179 rfl (r_geq (hA179.get rfl) rfl) fun a180 hA180 _ => ?_)
        refine sq_end ?_
        have hA181 := hA180.keep [(1, .int .i64 at_2), (7, .int .u64 (bits .or .u64 v_43 (IntKind.u64.wrap ((IntKind.u64.wrap (bits .andNot .u8 x_146 128)) * 2 ^ (7 * x_44).toNat)))), (8, .int .i64 x_44), (9, .int .u8 x_146), (27, Sl.v (Sl.cut b_1 1 at_2.toNat (at_2 + (min ((b_1.n : Int) - at_2) 10)).toNat b_1.c)), (28, .int .i64 ((Sl.cut b_1 1 at_2.toNat (at_2 + (min ((b_1.n : Int) - at_2) 10)).toNat b_1.c).n : Int)), (29, .int .i64 x_44), (49, .bool (decide (128 ≤ x_146)))] ⟨rfl, rfl, rfl, rfl, rfl, rfl, rfl, rfl, trivial⟩
        refine then_normal ?_
        refine wp_cond_split (hA181.get rfl) (fun hc => ?_) (fun hc => ?_)
        · have ht182 := ht175.1 (of_decide_eq_true hc)
          clear hc
          refine wp_exit ?_
          refine then_exit ?_
          refine block_hit ?_
          have hA184 := hA181.keep [(1, .int .i64 at_2), (7, .int .u64 (bits .or .u64 v_43 (IntKind.u64.wrap ((IntKind.u64.wrap (bits .andNot .u8 x_146 128)) * 2 ^ (7 * x_44).toNat)))), (27, Sl.v (Sl.cut b_1 1 at_2.toNat (at_2 + (min ((b_1.n : Int) - at_2) 10)).toNat b_1.c)), (28, .int .i64 ((Sl.cut b_1 1 at_2.toNat (at_2 + (min ((b_1.n : Int) - at_2) 10)).toNat b_1.c).n : Int)), (29, .int .i64 x_44)] ⟨rfl, rfl, rfl, rfl, rfl, trivial⟩
          refine then_normal ?_
          refine wp_region_lit ?_
          obtain ⟨hS186, ht187⟩ := ht182
          refine sq (opk_val hA184 rfl (r_addI (hA184.get rfl) rfl hS186) fun a185 hA185 _ => ?_)
          refine sq (opk_val hA185 rfl (r_move (hA185.get rfl)) fun a188 hA188 _ => ?_)
          refine sq_end ?_
          have hA189 := hA188.keep [(1, .int .i64 at_2), (7, .int .u64 (bits .or .u64 v_43 (IntKind.u64.wrap ((IntKind.u64.wrap (bits .andNot .u8 x_146 128)) * 2 ^ (7 * x_44).toNat)))), (27, Sl.v (Sl.cut b_1 1 at_2.toNat (at_2 + (min ((b_1.n : Int) - at_2) 10)).toNat b_1.c)), (28, .int .i64 ((Sl.cut b_1 1 at_2.toNat (at_2 + (min ((b_1.n : Int) - at_2) 10)).toNat b_1.c).n : Int)), (29, .int .i64 (x_44 + 1))] ⟨rfl, rfl, rfl, rfl, rfl, trivial⟩
          have hA190 := hA189.keep [(1, .int .i64 at_2), (7, .int .u64 (bits .or .u64 v_43 (IntKind.u64.wrap ((IntKind.u64.wrap (bits .andNot .u8 x_146 128)) * 2 ^ (7 * x_44).toNat)))), (27, Sl.v (Sl.cut b_1 1 at_2.toNat (at_2 + (min ((b_1.n : Int) - at_2) 10)).toNat b_1.c)), (28, .int .i64 ((Sl.cut b_1 1 at_2.toNat (at_2 + (min ((b_1.n : Int) - at_2) 10)).toNat b_1.c).n : Int)), (29, .int .i64 (x_44 + 1))] ⟨rfl, rfl, rfl, rfl, rfl, trivial⟩
          exact then_normal ⟨(bits .or .u64 v_43 (IntKind.u64.wrap ((IntKind.u64.wrap (bits .andNot .u8 x_146 128)) * 2 ^ (7 * x_44).toNat)), x_44 + 1, w45), ⟨hA190, rfl, ht187.1⟩, ht187.2⟩
        · have ht183 := ht175.2 (of_decide_eq_false hc)
          clear hc
          refine wp_skip ?_
          refine then_normal ?_
          refine wp_seq ?_
          refine wp_seq ?_
          refine wp_region_lit ?_
          refine sq (opk_val hA181 rfl (r_move (hA181.get rfl)) fun a191 hA191 _ => ?_)
          refine sq (opk_val hA191 rfl (r_eql (hA191.get rfl) rfl) fun a192 hA192 _ => ?_)
          refine sq (opk_val hA192 rfl (r_move (hA192.get rfl)) fun a193 hA193 _ => ?_)
          refine sq (opk_gval hA193 rfl rfl (g := true) (e := (decide (x_146 = 0))) rfl (fun hg => r_move (hA193.get rfl)) fun a194 hA194 _ => ?_)
          refine sq (opk_gval hA194 rfl rfl (g := true) (e := (decide (x_146 = 0))) rfl (fun hg => r_gtr (cv_get (hA194.get rfl) hg) rfl) fun a195 hA195 _ => ?_)
          refine sq (opk_val hA195 rfl (r_pick_and (g := (true && ((decide (x_146 = 0)) == true))) (hA195.get rfl) (hA195.get rfl) (fun he => g_mkt rfl he)) fun a196 hA196 _ => ?_)
          refine sq_end ?_
          have hA197 := hA196.keep [(1, .int .i64 at_2), (7, .int .u64 (bits .or .u64 v_43 (IntKind.u64.wrap ((IntKind.u64.wrap (bits .andNot .u8 x_146 128)) * 2 ^ (7 * x_44).toNat)))), (8, .int .i64 x_44), (55, .bool ((decide (x_146 = 0)) && (decide (0 < x_44))))] ⟨rfl, rfl, rfl, rfl, trivial⟩
          refine then_normal ?_
          refine wp_cond_split (hA197.get rfl) (fun hc => ?_) (fun hc => ?_)
          · have ht198 := ht183.1 ⟨(of_decide_eq_true (b_and_t hc).1), (of_decide_eq_true (b_and_t hc).2)⟩
            clear hc
            refine wp_seq ?_
            refine wp_region_lit ?_
            refine sq (opk_val hA197 rfl (r_assign rfl) fun a200 hA200 _ => ?_)
            refine sq (opk_val hA200 rfl (r_assign rfl) fun a201 hA201 _ => ?_)
            refine sq (opk_val hA201 rfl (r_assign rfl) fun a202 hA202 _ => ?_)
            refine sq_end ?_
            have hA203 := hA202.keep [(4, .int .u64 0), (5, .int .i64 0), (6, .int .i64 10)] ⟨rfl, rfl, rfl, trivial⟩
            refine then_normal ?_
            refine wp_ret ?_
            refine then_ret ?_
            refine block_ret ?_
            refine then_ret ?_
            refine then_ret ?_
            refine block_ret ?_
            refine then_ret ?_
            exact res_all (vs := [.int .u64 0, .int .i64 0, .int .i64 10]) rfl hA203 ⟨res_of_tmp hA203 rfl, res_of_tmp hA203 rfl, res_of_tmp hA203 rfl, trivial⟩ ht198
          · have ht199 := ht183.2 ((b_and_f hc).imp (fun h => (of_decide_eq_false h)) (fun h => (of_decide_eq_false h)))
            clear hc
            refine wp_skip ?_
            refine then_normal ?_
            refine wp_seq ?_
            refine wp_region_lit ?_
            refine sq (opk_val hA197 rfl (r_move (hA197.get rfl)) fun a204 hA204 _ => ?_)
            refine sq (opk_val hA204 rfl (r_move (hA204.get rfl)) fun a205 hA205 _ => ?_)
            refine sq (opk_val hA205 rfl (r_move (hA205.get rfl)) fun a206 hA206 _ => ?_)
            obtain ⟨hS208, ht209⟩ := ht199
            refine sq (opk_val hA206 rfl (r_addI (hA206.get rfl) (hA206.get rfl) hS208) fun a207 hA207 _ => ?_)
            obtain ⟨hS211, ht212⟩ := ht209
            refine sq (opk_val hA207 rfl (r_addI (hA207.get rfl) rfl hS211) fun a210 hA210 _ => ?_)
            refine sq (opk_val hA210 rfl (r_assign (hA210.get rfl)) fun a213 hA213 _ => ?_)
            refine sq (opk_val hA213 rfl (r_assign (hA213.get rfl)) fun a214 hA214 _ => ?_)
            refine sq (opk_val hA214 rfl (r_assign rfl) fun a215 hA215 _ => ?_)
            refine sq_end ?_
            have hA216 := hA215.keep [(4, .int .u64 (bits .or .u64 v_43 (IntKind.u64.wrap ((IntKind.u64.wrap (bits .andNot .u8 x_146 128)) * 2 ^ (7 * x_44).toNat)))), (5, .int .i64 ((at_2 + x_44) + 1)), (6, .int .i64 0)] ⟨rfl, rfl, rfl, trivial⟩
            refine then_normal ?_
            refine wp_ret ?_
            refine block_ret ?_
            refine then_ret ?_
            refine then_ret ?_
            refine block_ret ?_
            refine then_ret ?_
            exact res_all (vs := [.int .u64 (bits .or .u64 v_43 (IntKind.u64.wrap ((IntKind.u64.wrap (bits .andNot .u8 x_146 128)) * 2 ^ (7 * x_44).toNat))), .int .i64 ((at_2 + x_44) + 1), .int .i64 0]) rfl hA216 ⟨res_of_tmp hA216 rfl, res_of_tmp hA216 rfl, res_of_tmp hA216 rfl, trivial⟩ ht212
    · have ht138 := ht133.2 (of_decide_eq_false hc)
      clear hc
      refine wp_exit ?_
      refine then_exit ?_
      refine then_exit ?_
      refine block_hit ?_
      have hA217 := hA136.keep [] trivial
      refine then_normal ?_
      refine wp_seq ?_
      refine wp_region_lit ?_
      refine sq (opk_val hA217 rfl (r_assign rfl) fun a218 hA218 _ => ?_)
      refine sq (opk_val hA218 rfl (r_assign rfl) fun a219 hA219 _ => ?_)
      refine sq (opk_val hA219 rfl (r_assign rfl) fun a220 hA220 _ => ?_)
      refine sq_end ?_
      have hA221 := hA220.keep [(4, .int .u64 0), (5, .int .i64 0), (6, .int .i64 9)] ⟨rfl, rfl, rfl, trivial⟩
      refine then_normal ?_
      refine wp_ret ?_
      exact res_all (vs := [.int .u64 0, .int .i64 0, .int .i64 9]) rfl hA221 ⟨res_of_tmp hA221 rfl, res_of_tmp hA221 rfl, res_of_tmp hA221 rfl, trivial⟩ ht138

/-- The condition of topiary/vint.GetText. -/
def vint_GetText.vc (b_1 : Sl) (at_2 : Int) (limit_3 : Int) (R : Value → World → Prop) (w : World) : Prop :=
CallK Try.prog 46 #[Sl.v b_1, .int .i64 at_2] w [] (fun v w14 => ∃ (r_0_10 : Int) (r_1_11 : Int) (r_2_12 : Int), v = .tuple #[.int .u64 r_0_10, .int .i64 r_1_11, .int .i64 r_2_12] ∧
((r_2_12 ≠ 0) →
R (.tuple #[.string (Bs ([] : Str)), .int .i64 0, .int .i64 r_2_12]) w14) ∧
((¬ (r_2_12 ≠ 0)) →
(((limit_3 < 0) ∨ ((IntKind.u64.wrap limit_3) < r_0_10)) →
R (.tuple #[.string (Bs ([] : Str)), .int .i64 0, .int .i64 2]) w14) ∧
(((¬ (limit_3 < 0)) ∧ (¬ ((IntKind.u64.wrap limit_3) < r_0_10))) →
(I64 ((b_1.n : Int) - r_1_11)) ∧
(((IntKind.u64.wrap ((b_1.n : Int) - r_1_11)) < r_0_10) →
R (.tuple #[.string (Bs ([] : Str)), .int .i64 0, .int .i64 9]) w14) ∧
((¬ ((IntKind.u64.wrap ((b_1.n : Int) - r_1_11)) < r_0_10)) →
(I64 r_0_10) ∧
(I64 (r_1_11 + r_0_10)) ∧
((0 : Int) ≤ r_1_11 ∧ (r_1_11 : Int) ≤ r_1_11 + r_0_10 ∧ r_1_11 + r_0_10 ≤ (b_1.c : Int)) ∧
∃ s_88 : Str, ((convert 24 9 (Sl.v (Sl.cut b_1 1 r_1_11.toNat (r_1_11 + r_0_10).toNat b_1.c))).run Try.prog w14 = .ok (.string (Bs s_88)) w14) ∧
R (.tuple #[.string (Bs s_88), .int .i64 (r_1_11 + r_0_10), .int .i64 0]) w14))))
set_option maxHeartbeats 1000000 in
set_option maxRecDepth 10000 in
theorem vint_GetText.ok (b_1 : Sl) (at_2 : Int) (limit_3 : Int) {R : Value → World → Prop} {w : World} (ht0 : vint_GetText.vc b_1 at_2 limit_3 R w) : Calls Try.prog 47 #[Sl.v b_1, .int .i64 at_2, .int .i64 limit_3] w (Ret R) := by
  refine enter [Sl.v b_1, .int .i64 at_2, .int .i64 limit_3] Try.func47 rfl Try.ntmps47 rfl ?_
  intro a0 hA0
  unfold vint_GetText.vc at ht0
  refine wp_seq ?_
  refine wp_region_lit ?_
  refine sq (opk_val hA0 rfl (r_assign rfl) fun a4 hA4 _ => ?_)
  refine sq (opk_val hA4 rfl (r_assign rfl) fun a5 hA5 _ => ?_)
  refine sq (opk_val hA5 rfl (r_assign rfl) fun a6 hA6 _ => ?_)
  refine sq_end ?_
  have hA7 := hA6.keep [(0, Sl.v b_1), (1, .int .i64 at_2), (2, .int .i64 limit_3)] ⟨rfl, rfl, rfl, trivial⟩
  refine then_normal ?_
  refine wp_seq ?_
  refine wp_region_lit ?_
  refine sq (opk_val hA7 rfl (r_move (hA7.get rfl)) fun a8 hA8 _ => ?_)
  refine sq (opk_val hA8 rfl (r_move (hA8.get rfl)) fun a9 hA9 _ => ?_)
  refine sq (opk_call hA9 rfl (r_call (args := #[Sl.v b_1, .int .i64 at_2]) Try.func46 (by decide) rfl (map_arr (ml_cons (hA9.get rfl) (ml_cons (hA9.get rfl) ml_nil))) rfl) ht0 fun a13 v19 w14 hA13 _ hn16 hz17 hK18 => ?_)
  obtain ⟨r_0_10, r_1_11, r_2_12, rfl, ht15⟩ := hK18
  refine sq (opk_val hA13 rfl (r_move (hA13.get rfl)) fun a20 hA20 _ => ?_)
  refine sq (opk_val hA20 rfl (r_extract (hA20.get rfl) rfl) fun a21 hA21 _ => ?_)
  refine sq (opk_val hA21 rfl (r_extract (hA21.get rfl) rfl) fun a22 hA22 _ => ?_)
  refine sq (opk_val hA22 rfl (r_extract (hA22.get rfl) rfl) fun a23 hA23 _ => ?_)
  refine sq (opk_val hA23 rfl (r_assign (hA23.get rfl)) fun a24 hA24 _ => ?_)
  refine sq (opk_val hA24 rfl (r_assign (hA24.get rfl)) fun a25 hA25 _ => ?_)
  refine sq (opk_val hA25 rfl (r_assign (hA25.get rfl)) fun a26 hA26 _ => ?_)
  refine sq_end ?_
  have hA27 := hA26.keep [(0, Sl.v b_1), (1, .int .i64 r_1_11), (2, .int .i64 limit_3), (9, .int .u64 r_0_10), (10, .int .i64 r_2_12)] ⟨rfl, rfl, rfl, rfl, rfl, trivial⟩
  refine then_normal ?_
  refine wp_seq ?_
  refine wp_block ?_
  refine wp_seq ?_
  refine wp_region_lit ?_
  refine sq (opk_val hA27 rfl (r_move (hA27.get rfl)) fun a28 hA28 _ => ?_)
  refine sq (opk_val hA28 rfl (r_neq (hA28.get rfl) rfl) fun a29 hA29 _ => ?_)
  refine sq (opk_val hA29 rfl (r_assign (hA29.get rfl)) fun a30 hA30 _ => ?_)
  refine sq_end ?_
  have hA31 := hA30.keep [(0, Sl.v b_1), (1, .int .i64 r_1_11), (2, .int .i64 limit_3), (9, .int .u64 r_0_10), (10, .int .i64 r_2_12), (19, .bool (decide (r_2_12 ≠ 0)))] ⟨rfl, rfl, rfl, rfl, rfl, rfl, trivial⟩
  refine then_normal ?_
  refine wp_cond_split (hA31.get rfl) (fun hc => ?_) (fun hc => ?_)
  · have ht32 := ht15.1 (of_decide_eq_true hc)
    clear hc
    refine wp_seq ?_
    refine wp_region_lit ?_
    refine sq (opk_val hA31 rfl (r_move (hA31.get rfl)) fun a34 hA34 _ => ?_)
    refine sq (opk_val hA34 rfl (r_assign rfl) fun a35 hA35 _ => ?_)
    refine sq (opk_val hA35 rfl (r_assign rfl) fun a36 hA36 _ => ?_)
    refine sq (opk_val hA36 rfl (r_assign (hA36.get rfl)) fun a37 hA37 _ => ?_)
    refine sq_end ?_
    have hA38 := hA37.keep [(6, .string (Bs ([] : Str))), (7, .int .i64 0), (8, .int .i64 r_2_12)] ⟨rfl, rfl, rfl, trivial⟩
    refine then_normal ?_
    refine wp_ret ?_
    refine block_ret ?_
    refine then_ret ?_
    exact res_all (vs := [.string (Bs ([] : Str)), .int .i64 0, .int .i64 r_2_12]) rfl hA38 ⟨res_of_tmp hA38 rfl, res_of_tmp hA38 rfl, res_of_tmp hA38 rfl, trivial⟩ ht32
  · have ht33 := ht15.2 (of_decide_eq_false hc)
    clear hc
    refine wp_seq ?_
    refine wp_region_lit ?_
    refine sq (opk_val hA31 rfl (r_move (hA31.get rfl)) fun a39 hA39 _ => ?_)
    refine sq (opk_val hA39 rfl (r_lss (hA39.get rfl) rfl) fun a40 hA40 _ => ?_)
    refine sq (opk_val hA40 rfl (r_move (hA40.get rfl)) fun a41 hA41 _ => ?_)
    refine sq (opk_gval hA41 rfl rfl (g := true) (e := (decide (limit_3 < 0))) rfl (fun hg => r_move (hA41.get rfl)) fun a42 hA42 _ => ?_)
    refine sq (opk_gval hA42 rfl rfl (g := true) (e := (decide (limit_3 < 0))) rfl (fun hg => r_move (hA42.get rfl)) fun a43 hA43 _ => ?_)
    refine sq (opk_gval hA43 rfl rfl (g := true) (e := (decide (limit_3 < 0))) rfl (fun hg => r_conv (cv_get (hA43.get rfl) hg) rfl Try.underlying22) fun a44 hA44 _ => ?_)
    refine sq (opk_gval hA44 rfl rfl (g := true) (e := (decide (limit_3 < 0))) rfl (fun hg => r_gtr (cv_get (hA44.get rfl) hg) (cv_get (hA44.get rfl) hg)) fun a45 hA45 _ => ?_)
    refine sq (opk_val hA45 rfl (r_pick_or (g := (true && ((decide (limit_3 < 0)) == false))) (hA45.get rfl) (hA45.get rfl) (fun he => g_mkf rfl he)) fun a46 hA46 _ => ?_)
    refine sq (opk_val hA46 rfl (r_assign (hA46.get rfl)) fun a47 hA47 _ => ?_)
    refine sq_end ?_
    have hA48 := hA47.keep [(0, Sl.v b_1), (1, .int .i64 r_1_11), (9, .int .u64 r_0_10), (23, .bool ((decide (limit_3 < 0)) || (decide ((IntKind.u64.wrap limit_3) < r_0_10))))] ⟨rfl, rfl, rfl, rfl, trivial⟩
    refine then_normal ?_
    refine wp_cond_split (hA48.get rfl) (fun hc => ?_) (fun hc => ?_)
    · have ht49 := ht33.1 ((b_or_t hc).imp (fun h => (of_decide_eq_true h)) (fun h => (of_decide_eq_true h)))
      clear hc
      refine wp_seq ?_
      refine wp_region_lit ?_
      refine sq (opk_val hA48 rfl (r_assign rfl) fun a51 hA51 _ => ?_)
      refine sq (opk_val hA51 rfl (r_assign rfl) fun a52 hA52 _ => ?_)
      refine sq (opk_val hA52 rfl (r_assign rfl) fun a53 hA53 _ => ?_)
      refine sq_end ?_
      have hA54 := hA53.keep [(6, .string (Bs ([] : Str))), (7, .int .i64 0), (8, .int .i64 2)] ⟨rfl, rfl, rfl, trivial⟩
      refine then_normal ?_
      refine wp_ret ?_
      refine block_ret ?_
      refine then_ret ?_
      exact res_all (vs := [.string (Bs ([] : Str)), .int .i64 0, .int .i64 2]) rfl hA54 ⟨res_of_tmp hA54 rfl, res_of_tmp hA54 rfl, res_of_tmp hA54 rfl, trivial⟩ ht49
    · have ht50 := ht33.2 ⟨(of_decide_eq_false (b_or_f hc).1), (of_decide_eq_false (b_or_f hc).2)⟩
      clear hc
      refine wp_seq ?_
      refine wp_region_lit ?_
      refine sq (opk_val hA48 rfl (r_move (hA48.get rfl)) fun a55 hA55 _ => ?_)
      refine sq (opk_val hA55 rfl (r_move (hA55.get rfl)) fun a56 hA56 _ => ?_)
      refine sq (opk_val hA56 rfl (r_len (hA56.get rfl) Try.underlying24) fun a57 hA57 _ => ?_)
      refine sq (opk_val hA57 rfl (r_move (hA57.get rfl)) fun a58 hA58 _ => ?_)
      obtain ⟨hS60, ht61⟩ := ht50
      refine sq (opk_val hA58 rfl (r_subI (hA58.get rfl) (hA58.get rfl) hS60) fun a59 hA59 _ => ?_)
      refine sq (opk_val hA59 rfl (r_conv (hA59.get rfl) rfl Try.underlying22) fun a62 hA62 _ => ?_)
      refine sq (opk_val hA62 rfl (r_gtr (hA62.get rfl) (hA62.get rfl)) fun a63 hA63 _ => ?_)
      refine sq (opk_val hA63 rfl (r_assign (hA63.get rfl)) fun a64 hA64 _ => ?_)
      refine sq_end ?_
      have hA65 := hA64.keep [(0, Sl.v b_1), (1, .int .i64 r_1_11), (9, .int .u64 r_0_10), (32, .bool (decide ((IntKind.u64.wrap ((b_1.n : Int) - r_1_11)) < r_0_10)))] ⟨rfl, rfl, rfl, rfl, trivial⟩
      refine then_normal ?_
      refine wp_cond_split (hA65.get rfl) (fun hc => ?_) (fun hc => ?_)
      · have ht66 := ht61.1 (of_decide_eq_true hc)
        clear hc
        refine wp_seq ?_
        refine wp_region_lit ?_
        refine sq (opk_val hA65 rfl (r_assign rfl) fun a68 hA68 _ => ?_)
        refine sq (opk_val hA68 rfl (r_assign rfl) fun a69 hA69 _ => ?_)
        refine sq (opk_val hA69 rfl (r_assign rfl) fun a70 hA70 _ => ?_)
        refine sq_end ?_
        have hA71 := hA70.keep [(6, .string (Bs ([] : Str))), (7, .int .i64 0), (8, .int .i64 9)] ⟨rfl, rfl, rfl, trivial⟩
        refine then_normal ?_
        refine wp_ret ?_
        refine block_ret ?_
        refine then_ret ?_
        exact res_all (vs := [.string (Bs ([] : Str)), .int .i64 0, .int .i64 9]) rfl hA71 ⟨res_of_tmp hA71 rfl, res_of_tmp hA71 rfl, res_of_tmp hA71 rfl, trivial⟩ ht66
      · have ht67 := ht61.2 (of_decide_eq_false hc)
        clear hc
        refine wp_skip ?_
        refine block_normal ?_
        refine then_normal ?_
        refine wp_seq ?_
        refine wp_region_lit ?_
        refine sq (opk_val hA65 rfl (r_move (hA65.get rfl)) fun a72 hA72 _ => ?_)
        refine sq (opk_val hA72 rfl (r_move (hA72.get rfl)) fun a73 hA73 _ => ?_)
        obtain ⟨hS75, ht76⟩ := ht67
        refine sq (opk_val hA73 rfl (r_convI (hA73.get rfl) rfl Try.underlying3 hS75) fun a74 hA74 _ => ?_)
        obtain ⟨hS78, ht79⟩ := ht76
        refine sq (opk_val hA74 rfl (r_addI (hA74.get rfl) (hA74.get rfl) hS78) fun a77 hA77 _ => ?_)
        refine sq (opk_val hA77 rfl (r_assign (hA77.get rfl)) fun a80 hA80 _ => ?_)
        refine sq_end ?_
        have hA81 := hA80.keep [(0, Sl.v b_1), (1, .int .i64 r_1_11), (11, .int .i64 (r_1_11 + r_0_10))] ⟨rfl, rfl, rfl, trivial⟩
        refine then_normal ?_
        refine wp_seq ?_
        refine wp_region_lit ?_
        refine sq (opk_val hA81 rfl (r_move (hA81.get rfl)) fun a82 hA82 _ => ?_)
        refine sq (opk_val hA82 rfl (r_move (hA82.get rfl)) fun a83 hA83 _ => ?_)
        refine sq (opk_val hA83 rfl (r_move (hA83.get rfl)) fun a84 hA84 _ => ?_)
        obtain ⟨hS86, ht87⟩ := ht79
        refine sq (opk_val hA84 rfl (r_slice2 (hA84.get rfl) (hA84.get rfl) (hA84.get rfl) Try.underlying24 ti_5 hS86) fun a85 hA85 _ => ?_)
        obtain ⟨s_88, hx89, ht90⟩ := ht87
        refine sq (opk_val hA85 rfl (r_convR (hA85.get rfl) hx89) fun a91 hA91 _ => ?_)
        refine sq (opk_val hA91 rfl (r_move (hA91.get rfl)) fun a92 hA92 _ => ?_)
        refine sq (opk_val hA92 rfl (r_assign (hA92.get rfl)) fun a93 hA93 _ => ?_)
        refine sq (opk_val hA93 rfl (r_assign (hA93.get rfl)) fun a94 hA94 _ => ?_)
        refine sq (opk_val hA94 rfl (r_assign rfl) fun a95 hA95 _ => ?_)
        refine sq_end ?_
        have hA96 := hA95.keep [(6, .string (Bs s_88)), (7, .int .i64 (r_1_11 + r_0_10)), (8, .int .i64 0)] ⟨rfl, rfl, rfl, trivial⟩
        refine then_normal ?_
        refine wp_ret ?_
        exact res_all (vs := [.string (Bs s_88), .int .i64 (r_1_11 + r_0_10), .int .i64 0]) rfl hA96 ⟨res_of_tmp hA96 rfl, res_of_tmp hA96 rfl, res_of_tmp hA96 rfl, trivial⟩ ht90

end Go.Proofs.Yteacalmdpoblpaa
