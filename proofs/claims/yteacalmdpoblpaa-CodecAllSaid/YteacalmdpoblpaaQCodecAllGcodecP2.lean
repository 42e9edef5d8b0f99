/-
  PRINTED BY PROGRAM: for each function its condition (vc), and that this suffices (ok).
-/
import Derived.Test.YteacalmdpoblpaaQCodecAllGT
namespace Go.Proofs.Yteacalmdpoblpaa
open Go.RowKit
set_option linter.unusedVariables false

/-- The condition of topiary/codec.numbers. -/
def codec_numbers.vc (o_1_Kind : Int) (o_1_ID : Int) (o_1_Parent : Int) (o_1_At : Int) (o_1_What : Int) (o_1_Name : Str) (o_1_Text : Str) (R : Value → World → Prop) (w : World) : Prop :=
((o_1_Kind = 1) →
∀ (w27 : World) (B_2 : Nat) (B_26 : Nat), New w B_2 w27 → New w B_26 w27 → B_2 ≠ B_26 → Chg [] w w27 →
∀ (_ : Box w27 B_26 3 [.int .i64 o_1_Parent, .int .i64 o_1_At, .int .i64 o_1_What]),
R (Sl.v (Sl.mk (some ⟨B_26, 0, none⟩) 3 3)) w27) ∧
((¬ (o_1_Kind = 1)) →
((o_1_Kind = 3) →
∀ (w51 : World) (B_2 : Nat) (B_50 : Nat), New w B_2 w51 → New w B_50 w51 → B_2 ≠ B_50 → Chg [] w w51 →
∀ (_ : Box w51 B_50 3 [.int .i64 o_1_Parent, .int .i64 o_1_At]),
R (Sl.v (Sl.mk (some ⟨B_50, 0, none⟩) 2 2)) w51) ∧
((¬ (o_1_Kind = 3)) →
∀ (w3 : World) (B_2 : Nat), New w B_2 w3 → Chg [] w w3 →
R (Sl.v Sl.nil) w3))
set_option maxHeartbeats 1000000 in
set_option maxRecDepth 10000 in
theorem codec_numbers.ok (o_1_Kind : Int) (o_1_ID : Int) (o_1_Parent : Int) (o_1_At : Int) (o_1_What : Int) (o_1_Name : Str) (o_1_Text : Str) {R : Value → World → Prop} {w : World} (ht0 : codec_numbers.vc o_1_Kind o_1_ID o_1_Parent o_1_At o_1_What o_1_Name o_1_Text R w) : Calls Try.prog 25 #[.agg #[.int .i64 o_1_Kind, .int .i64 o_1_ID, .int .i64 o_1_Parent, .int .i64 o_1_At, .int .i64 o_1_What, .string (Bs o_1_Name), .string (Bs o_1_Text)]] w (Ret R) := by
  refine enter [.agg #[.int .i64 o_1_Kind, .int .i64 o_1_ID, .int .i64 o_1_Parent, .int .i64 o_1_At, .int .i64 o_1_What, .string (Bs o_1_Name), .string (Bs o_1_Text)]] Try.func25 rfl Try.ntmps25 rfl ?_
  intro a0 hA0
  unfold codec_numbers.vc at ht0
  refine wp_seq ?_
  refine wp_region_lit ?_
  refine sq (opk_new (fun B => .pointer (some ⟨B, 0, none⟩)) hA0 rfl (r_box (cs := [.int .i64 o_1_Kind, .int .i64 o_1_ID, .int .i64 o_1_Parent, .int .i64 o_1_At, .int .i64 o_1_What, .string (Bs o_1_Name), .string (Bs o_1_Text)]) (hA0.get rfl) rfl) fun a4 w3 B_2 hE5 hN6 hB7 hA4 _ => ?_)
  have hN8 : New w B_2 w3 := hN6
  have hC9 : Chg [] w w3 := hE5
  refine sq (opk_val hA4 rfl (r_assign rfl) fun a10 hA10 _ => ?_)
  refine sq_end ?_
  have hA11 := hA10.keep [(1, .pointer (some (⟨B_2, 0, none⟩ : Addr)))] ⟨rfl, trivial⟩
  refine then_normal ?_
  refine wp_seq ?_
  refine wp_seq ?_
  refine wp_region_lit ?_
  refine sq (opk_val hA11 rfl (r_fieldAddr (hA11.get rfl) Try.underlying42 rfl ti_3 (by decide)) fun a12 hA12 _ => ?_)
  refine sq (opk_val hA12 rfl (r_load1 Try.underlying3 rfl (hA12.get rfl) (hB7.cell 0 _ rfl)) fun a13 hA13 _ => ?_)
  refine sq_end ?_
  have hA14 := hA13.keep [(1, .pointer (some (⟨B_2, 0, none⟩ : Addr))), (4, .int .i64 o_1_Kind)] ⟨rfl, rfl, trivial⟩
  refine then_normal ?_
  refine wp_block ?_
  refine wp_seq ?_
  refine wp_region_lit ?_
  refine sq (opk_val hA14 rfl (r_eql (hA14.get rfl) rfl) fun a15 hA15 _ => ?_)
  refine sq (opk_val hA15 rfl (r_assign (hA15.get rfl)) fun a16 hA16 _ => ?_)
  refine sq_end ?_
  have hA17 := hA16.keep [(1, .pointer (some (⟨B_2, 0, none⟩ : Addr))), (4, .int .i64 o_1_Kind), (5, .bool (decide (o_1_Kind = 1)))] ⟨rfl, rfl, rfl, trivial⟩
  refine then_normal ?_
  refine wp_cond_split (hA17.get rfl) (fun hc => ?_) (fun hc => ?_)
  · have ht18 := ht0.1 (of_decide_eq_true hc)
    clear hc
    refine wp_seq ?_
    refine wp_region_lit ?_
    refine sq (opk_val hA17 rfl (r_fieldAddr (hA17.get rfl) Try.underlying42 rfl ti_3 (by decide)) fun a20 hA20 _ => ?_)
    refine sq (opk_val hA20 rfl (r_load1 Try.underlying3 rfl (hA20.get rfl) (hB7.cell 2 _ rfl)) fun a21 hA21 _ => ?_)
    refine sq (opk_val hA21 rfl (r_fieldAddr (hA21.get rfl) Try.underlying42 rfl ti_3 (by decide)) fun a22 hA22 _ => ?_)
    refine sq (opk_val hA22 rfl (r_load1 Try.underlying3 rfl (hA22.get rfl) (hB7.cell 3 _ rfl)) fun a23 hA23 _ => ?_)
    refine sq (opk_val hA23 rfl (r_fieldAddr (hA23.get rfl) Try.underlying42 rfl ti_3 (by decide)) fun a24 hA24 _ => ?_)
    refine sq (opk_val hA24 rfl (r_load1 Try.underlying3 rfl (hA24.get rfl) (hB7.cell 4 _ rfl)) fun a25 hA25 _ => ?_)
    refine sq (opk_new (fun B => .slice (some ⟨B, 0, none⟩) 3 3) hA25 rfl (r_buildSlice (vs := #[(0, .int .i64 o_1_Parent), (1, .int .i64 o_1_At), (2, .int .i64 o_1_What)]) (cs := [.int .i64 o_1_Parent, .int .i64 o_1_At, .int .i64 o_1_What]) (map_arr2 (ml2_cons (hA25.get rfl) (ml2_cons (hA25.get rfl) (ml2_cons (hA25.get rfl) (ml2_nil))))) Try.underlying55 ti_3 rfl rfl (by kernel_rfl)) fun a28 w27 B_26 hE29 hN30 hB31 hA28 _ => ?_)
    have hne32 : B_2 ≠ B_26 := Nat.ne_of_lt (Nat.lt_of_lt_of_le hB7.lt hN30.ge)
    have hN33 := New.of hC9 hN30
    have hB34 := hB7.ext hE29
    have hC35 := hC9.more hE29
    have hN36 := hN8.up hE29.size
    refine sq (opk_val hA28 rfl (r_assign (hA28.get rfl)) fun a37 hA37 _ => ?_)
    refine sq_end ?_
    have hA38 := hA37.keep [(2, Sl.v (Sl.mk (some ⟨B_26, 0, none⟩) 3 3))] ⟨rfl, trivial⟩
    refine then_normal ?_
    refine wp_ret ?_
    refine block_ret ?_
    refine then_ret ?_
    have ht39 := ht18 w27 B_2 B_26 hN36 hN33 hne32 hC35
    have ht40 := ht39 hB31
    exact res_all (vs := [Sl.v (Sl.mk (some ⟨B_26, 0, none⟩) 3 3)]) rfl hA38 ⟨res_of_tmp hA38 rfl, trivial⟩ ht40
  · have ht19 := ht0.2 (of_decide_eq_false hc)
    clear hc
    refine wp_seq ?_
    refine wp_region_lit ?_
    refine sq (opk_val hA17 rfl (r_eql (hA17.get rfl) rfl) fun a41 hA41 _ => ?_)
    refine sq (opk_val hA41 rfl (r_assign (hA41.get rfl)) fun a42 hA42 _ => ?_)
    refine sq_end ?_
    have hA43 := hA42.keep [(1, .pointer (some (⟨B_2, 0, none⟩ : Addr))), (14, .bool (decide (o_1_Kind = 3)))] ⟨rfl, rfl, trivial⟩
    refine then_normal ?_
    refine wp_cond_split (hA43.get rfl) (fun hc => ?_) (fun hc => ?_)
    · have ht44 := ht19.1 (of_decide_eq_true hc)
      clear hc
      refine wp_seq ?_
      refine wp_region_lit ?_
      refine sq (opk_val hA43 rfl (r_fieldAddr (hA43.get rfl) Try.underlying42 rfl ti_3 (by decide)) fun a46 hA46 _ => ?_)
      refine sq (opk_val hA46 rfl (r_load1 Try.underlying3 rfl (hA46.get rfl) (hB7.cell 2 _ rfl)) fun a47 hA47 _ => ?_)
      refine sq (opk_val hA47 rfl (r_fieldAddr (hA47.get rfl) Try.underlying42 rfl ti_3 (by decide)) fun a48 hA48 _ => ?_)
      refine sq (opk_val hA48 rfl (r_load1 Try.underlying3 rfl (hA48.get rfl) (hB7.cell 3 _ rfl)) fun a49 hA49 _ => ?_)
      refine sq (opk_new (fun B => .slice (some ⟨B, 0, none⟩) 2 2) hA49 rfl (r_buildSlice (vs := #[(0, .int .i64 o_1_Parent), (1, .int .i64 o_1_At)]) (cs := [.int .i64 o_1_Parent, .int .i64 o_1_At]) (map_arr2 (ml2_cons (hA49.get rfl) (ml2_cons (hA49.get rfl) (ml2_nil)))) Try.underlying55 ti_3 rfl rfl (by kernel_rfl)) fun a52 w51 B_50 hE53 hN54 hB55 hA52 _ => ?_)
      have hne56 : B_2 ≠ B_50 := Nat.ne_of_lt (Nat.lt_of_lt_of_le hB7.lt hN54.ge)
      have hN57 := New.of hC9 hN54
      have hB58 := hB7.ext hE53
      have hC59 := hC9.more hE53
      have hN60 := hN8.up hE53.size
      refine sq (opk_val hA52 rfl (r_assign (hA52.get rfl)) fun a61 hA61 _ => ?_)
      refine sq_end ?_
      have hA62 := hA61.keep [(2, Sl.v (Sl.mk (some ⟨B_50, 0, none⟩) 2 2))] ⟨rfl, trivial⟩
      refine then_normal ?_
      refine wp_ret ?_
      refine block_ret ?_
      refine then_ret ?_
      have ht63 := ht44 w51 B_2 B_50 hN60 hN57 hne56 hC59
      have ht64 := ht63 hB55
      exact res_all (vs := [Sl.v (Sl.mk (some ⟨B_50, 0, none⟩) 2 2)]) rfl hA62 ⟨res_of_tmp hA62 rfl, trivial⟩ ht64
    · have ht45 := ht19.2 (of_decide_eq_false hc)
      clear hc
      refine wp_skip ?_
      refine block_normal ?_
      refine then_normal ?_
      refine wp_seq ?_
      refine wp_region_lit ?_
      refine sq (opk_val hA43 rfl (r_assign rfl) fun a65 hA65 _ => ?_)
      refine sq_end ?_
      have hA66 := hA65.keep [(2, Sl.v Sl.nil)] ⟨rfl, trivial⟩
      refine then_normal ?_
      refine wp_ret ?_
      have ht67 := ht45 w3 B_2 hN8  hC9
      exact res_all (vs := [Sl.v Sl.nil]) rfl hA66 ⟨res_of_tmp hA66 rfl, trivial⟩ ht67

/-- The condition of topiary/codec.sums. -/
def codec_sums.vc (b_1 : Sl) (R : Value → World → Prop) (w : World) : Prop :=
CallK Try.prog 42 #[Sl.v b_1] w [] (fun v w7 => ∃ (r_5 : Int), v = .int .u32 r_5 ∧
∃ (J_22 : Sl → Int → World → Prop) (mu_23 : Sl → Int → World → Nat),
J_22 Sl.nil 0 w7 ∧
(∀ (out_19 : Sl) (x_20 : Int) (w21 : World), J_22 out_19 x_20 w21 →
((x_20 < 4) →
(I64 (8 * x_20)) ∧
((0 : Int) ≤ (8 * x_20) ∧ (8 * x_20) ≤ 32) ∧
∀ (w90 : World) (B_89 : Nat), New w21 B_89 w90 → Chg [] w21 w90 →
∀ (_ : Box w90 B_89 5 [.int .u8 (IntKind.u8.wrap (r_5 / 2 ^ (8 * x_20).toNat))]),
RunK Try.prog (Builtin.append_ #[24, 24] 24 #[Sl.v out_19, Sl.v (Sl.mk (some ⟨B_89, 0, none⟩) 1 1)]) w90 [] (fun v w100 => ∃ (r_106 : Sl), v = Sl.v r_106 ∧
(I64 (x_20 + 1)) ∧
J_22 r_106 (x_20 + 1) w100 ∧ mu_23 r_106 (x_20 + 1) w100 < mu_23 out_19 x_20 w21)) ∧
((¬ (x_20 < 4)) →
R (Sl.v out_19) w21)))
set_option maxHeartbeats 1000000 in
set_option maxRecDepth 10000 in
theorem codec_sums.ok (b_1 : Sl) {R : Value → World → Prop} {w : World} (ht0 : codec_sums.vc b_1 R w) : Calls Try.prog 26 #[Sl.v b_1] w (Ret R) := by
  refine enter [Sl.v b_1] Try.func26 rfl Try.ntmps26 rfl ?_
  intro a0 hA0
  unfold codec_sums.vc at ht0
  refine wp_seq ?_
  refine wp_region_lit ?_
  refine sq (opk_val hA0 rfl (r_assign rfl) fun a2 hA2 _ => ?_)
  refine sq_end ?_
  have hA3 := hA2.keep [(0, Sl.v b_1)] ⟨rfl, trivial⟩
  refine then_normal ?_
  refine wp_seq ?_
  refine wp_region_lit ?_
  refine sq (opk_val hA3 rfl (r_move (hA3.get rfl)) fun a4 hA4 _ => ?_)
  refine sq (opk_call hA4 rfl (r_call (args := #[Sl.v b_1]) Try.func42 (by decide) rfl (map_arr (ml_cons (hA4.get rfl) ml_nil)) rfl) ht0 fun a6 v12 w7 hA6 _ hn9 hz10 hK11 => ?_)
  obtain ⟨r_5, rfl, ht8⟩ := hK11
  refine sq (opk_val hA6 rfl (r_assign (hA6.get rfl)) fun a13 hA13 _ => ?_)
  refine sq_end ?_
  have hA14 := hA13.keep [(3, .int .u32 r_5)] ⟨rfl, trivial⟩
  refine then_normal ?_
  refine wp_seq ?_
  refine wp_region_lit ?_
  refine sq (opk_val hA14 rfl (r_assign rfl) fun a15 hA15 _ => ?_)
  refine sq_end ?_
  have hA16 := hA15.keep [(3, .int .u32 r_5), (4, Sl.v Sl.nil)] ⟨rfl, rfl, trivial⟩
  refine then_normal ?_
  refine wp_seq ?_
  refine wp_seq ?_
  refine wp_region_lit ?_
  refine sq (opk_val hA16 rfl (r_move rfl) fun a17 hA17 _ => ?_)
  refine sq_end ?_
  have hA18 := hA17.keep [(3, .int .u32 r_5), (4, Sl.v Sl.nil), (8, .int .i64 0)] ⟨rfl, rfl, rfl, trivial⟩
  refine then_normal ?_
  refine wp_block ?_
  obtain ⟨J_22, mu_23, h069, ht68⟩ := ht8
  refine wp_loop_st (σ := Sl × Int × World) (fun s a w => Ag 21 a [(3, .int .u32 r_5), (4, Sl.v s.1), (8, .int .i64 s.2.1)] ∧ w = s.2.2 ∧ J_22 s.1 s.2.1 s.2.2) (fun s => mu_23 s.1 s.2.1 s.2.2) (Sl.nil, 0, w7) ⟨hA18.keep [(3, .int .u32 r_5), (4, Sl.v Sl.nil), (8, .int .i64 0)] ⟨rfl, rfl, rfl, trivial⟩, rfl, h069⟩ ?_
  rintro ⟨out_19, x_20, w21⟩ a67 w_ ⟨hA67, hw_, hJ71⟩
  have hw_ : w21 = w_ := hw_.symm
  subst hw_
  have ht70 := ht68 out_19 x_20 _ hJ71
  refine wp_seq ?_
  refine wp_region_lit ?_
  refine sq (opk_val hA67 rfl (r_lss (hA67.get rfl) rfl) fun a72 hA72 _ => ?_)
  refine sq_end ?_
  have hA73 := hA72.keep [(3, .int .u32 r_5), (4, Sl.v out_19), (8, .int .i64 x_20), (9, .bool (decide (x_20 < 4)))] ⟨rfl, rfl, rfl, rfl, trivial⟩
  refine then_normal ?_
  refine wp_seq ?_
  refine wp_cond_split (hA73.get rfl) (fun hc => ?_) (fun hc => ?_)
  · have ht74 := ht70.1 (of_decide_eq_true hc)
    clear hc
    refine wp_skip ?_
    refine then_normal ?_
    refine wp_seq ?_
    refine wp_block ?_
    refine wp_seq ?_
    refine wp_region_lit ?_
    refine sq (opk_val hA73 rfl (r_move (hA73.get rfl)) fun a76 hA76 _ => ?_)
    refine sq (opk_val hA76 rfl (r_assign (hA76.get rfl)) fun a77 hA77 _ => ?_)
    refine sq_end ?_
    have hA78 := hA77.keep [(3, .int .u32 r_5), (4, Sl.v out_19), (5, .int .i64 x_20), (8, .int .i64 x_20)] ⟨rfl, rfl, rfl, rfl, trivial⟩
    refine then_normal ?_
    refine wp_region_lit ?_
    refine sq (opk_val hA78 rfl (r_move (hA78.get rfl)) fun a79 hA79 _ => ?_)
    refine sq (opk_val hA79 rfl (r_move (hA79.get rfl)) fun a80 hA80 _ => ?_)
    refine sq (opk_val hA80 rfl (r_move (hA80.get rfl)) fun a81 hA81 _ => ?_)
    obtain ⟨hS83, ht84⟩ := ht74
    refine sq (opk_val hA81 rfl (r_mulI rfl (hA81.get rfl) hS83) fun a82 hA82 _ => ?_)
    obtain ⟨hS86, ht87⟩ := ht84
    refine sq (opk_val hA82 rfl (r_shr (hA82.get rfl) (hA82.get rfl) hS86.1 hS86.2) fun a85 hA85 _ => ?_)
    refine sq (opk_val hA85 rfl (r_conv (hA85.get rfl) rfl Try.underlying5) fun a88 hA88 _ => ?_)
    refine sq (opk_new (fun B => .slice (some ⟨B, 0, none⟩) 1 1) hA88 rfl (r_buildSlice (vs := #[(0, .int .u8 (IntKind.u8.wrap (r_5 / 2 ^ (8 * x_20).toNat)))]) (cs := [.int .u8 (IntKind.u8.wrap (r_5 / 2 ^ (8 * x_20).toNat))]) (map_arr2 (ml2_cons (hA88.get rfl) (ml2_nil))) Try.underlying24 ti_5 rfl rfl (by kernel_rfl)) fun a91 w90 B_89 hE92 hN93 hB94 hA91 _ => ?_)
    have hN95 : New w21 B_89 w90 := hN93
    have hC96 : Chg [] w21 w90 := hE92
    have ht97 := ht87 w90 B_89 hN95  hC96
    have ht98 := ht97 hB94
    refine sq (opk_run hA91 rfl (fun _ _ hr => r_append (hA91.get rfl) (hA91.get rfl) hr) ht98 fun a99 v105 w100 hA99 _ hn102 hz103 hK104 => ?_)
    obtain ⟨r_106, rfl, ht101⟩ := hK104
    refine sq (opk_val hA99 rfl (r_assign (hA99.get rfl)) fun a107 hA107 _ => ?_)
    refine sq_end ?_
    have hA108 := hA107.keep [(3, .int .u32 r_5), (4, Sl.v r_106), (8, .int .i64 x_20)] ⟨rfl, rfl, rfl, trivial⟩
    refine block_normal ?_
    refine then_normal ?_
    refine wp_region_lit ?_
    obtain ⟨hS110, ht111⟩ := ht101
    refine sq (opk_val hA108 rfl (r_addI (hA108.get rfl) rfl hS110) fun a109 hA109 _ => ?_)
    refine sq (opk_val hA109 rfl (r_move (hA109.get rfl)) fun a112 hA112 _ => ?_)
    refine sq_end ?_
    have hA113 := hA112.keep [(3, .int .u32 r_5), (4, Sl.v r_106), (8, .int .i64 (x_20 + 1))] ⟨rfl, rfl, rfl, trivial⟩
    have hA114 := hA113.keep [(3, .int .u32 r_5), (4, Sl.v r_106), (8, .int .i64 (x_20 + 1))] ⟨rfl, rfl, rfl, trivial⟩
    exact then_normal ⟨(r_106, x_20 + 1, w100), ⟨hA114, rfl, ht111.1⟩, ht111.2⟩
  · have ht75 := ht70.2 (of_decide_eq_false hc)
    clear hc
    refine wp_exit ?_
    refine then_exit ?_
    refine then_exit ?_
    refine block_hit ?_
    have hA115 := hA73.keep [(4, Sl.v out_19)] ⟨rfl, trivial⟩
    refine then_normal ?_
    refine wp_seq ?_
    refine wp_region_lit ?_
    refine sq (opk_val hA115 rfl (r_move (hA115.get rfl)) fun a116 hA116 _ => ?_)
    refine sq (opk_val hA116 rfl (r_assign (hA116.get rfl)) fun a117 hA117 _ => ?_)
    refine sq_end ?_
    have hA118 := hA117.keep [(2, Sl.v out_19)] ⟨rfl, trivial⟩
    refine then_normal ?_
    refine wp_ret ?_
    exact res_all (vs := [Sl.v out_19]) rfl hA118 ⟨res_of_tmp hA118 rfl, trivial⟩ ht75

/-- The condition of (*topiary/codec.reader).hash. -/
def codec_reader_hash.vc (r_1 : Addr) (R : Value → World → Prop) (w : World) : Prop :=
∀ (w5 : World) (B_4 : Nat), New w B_4 w5 → Chg [] w w5 →
∃ (J_64 : Int → Int → Int → Int → Int → Int → Int → Int → Int → World → Prop) (mu_65 : Int → Int → Int → Int → Int → Int → Int → Int → Int → World → Nat),
J_64 0 0 0 0 0 0 0 0 0 w5 ∧
(∀ (x_54 : Int) (c_55 : Int) (c_56 : Int) (c_57 : Int) (c_58 : Int) (c_59 : Int) (c_60 : Int) (c_61 : Int) (c_62 : Int) (w63 : World), J_64 x_54 c_55 c_56 c_57 c_58 c_59 c_60 c_61 c_62 w63 →
((x_54 < 8) →
CallK Try.prog 44 #[.pointer (some r_1)] w63 [B_4] (fun v w119 => ∃ (r_117 : Int), v = .int .u8 r_117 ∧
((0 : Int) ≤ x_54 ∧ x_54 < 8) ∧
(I64 (x_54 + 1)) ∧
∀ (w129 : World), Chg [B_4] w119 w129 →
J_64 (x_54 + 1) ((([c_55, c_56, c_57, c_58, c_59, c_60, c_61, c_62] : List Int).set x_54.toNat r_117).getD 0 0) ((([c_55, c_56, c_57, c_58, c_59, c_60, c_61, c_62] : List Int).set x_54.toNat r_117).getD 1 0) ((([c_55, c_56, c_57, c_58, c_59, c_60, c_61, c_62] : List Int).set x_54.toNat r_117).getD 2 0) ((([c_55, c_56, c_57, c_58, c_59, c_60, c_61, c_62] : List Int).set x_54.toNat r_117).getD 3 0) ((([c_55, c_56, c_57, c_58, c_59, c_60, c_61, c_62] : List Int).set x_54.toNat r_117).getD 4 0) ((([c_55, c_56, c_57, c_58, c_59, c_60, c_61, c_62] : List Int).set x_54.toNat r_117).getD 5 0) ((([c_55, c_56, c_57, c_58, c_59, c_60, c_61, c_62] : List Int).set x_54.toNat r_117).getD 6 0) ((([c_55, c_56, c_57, c_58, c_59, c_60, c_61, c_62] : List Int).set x_54.toNat r_117).getD 7 0) w129 ∧ mu_65 (x_54 + 1) ((([c_55, c_56, c_57, c_58, c_59, c_60, c_61, c_62] : List Int).set x_54.toNat r_117).getD 0 0) ((([c_55, c_56, c_57, c_58, c_59, c_60, c_61, c_62] : List Int).set x_54.toNat r_117).getD 1 0) ((([c_55, c_56, c_57, c_58, c_59, c_60, c_61, c_62] : List Int).set x_54.toNat r_117).getD 2 0) ((([c_55, c_56, c_57, c_58, c_59, c_60, c_61, c_62] : List Int).set x_54.toNat r_117).getD 3 0) ((([c_55, c_56, c_57, c_58, c_59, c_60, c_61, c_62] : List Int).set x_54.toNat r_117).getD 4 0) ((([c_55, c_56, c_57, c_58, c_59, c_60, c_61, c_62] : List Int).set x_54.toNat r_117).getD 5 0) ((([c_55, c_56, c_57, c_58, c_59, c_60, c_61, c_62] : List Int).set x_54.toNat r_117).getD 6 0) ((([c_55, c_56, c_57, c_58, c_59, c_60, c_61, c_62] : List Int).set x_54.toNat r_117).getD 7 0) w129 < mu_65 x_54 c_55 c_56 c_57 c_58 c_59 c_60 c_61 c_62 w63)) ∧
((¬ (x_54 < 8)) →
CallK Try.prog 45 #[.agg #[.int .u8 c_55, .int .u8 c_56, .int .u8 c_57, .int .u8 c_58, .int .u8 c_59, .int .u8 c_60, .int .u8 c_61, .int .u8 c_62]] w63 [B_4] (fun v w147 => ∃ (r_145 : Int), v = .int .u64 r_145 ∧
R (.int .u64 r_145) w147)))
set_option maxHeartbeats 1000000 in
set_option maxRecDepth 10000 in
theorem codec_reader_hash.ok (r_1 : Addr) {R : Value → World → Prop} {w : World} (ht0 : codec_reader_hash.vc r_1 R w) : Calls Try.prog 33 #[.pointer (some r_1)] w (Ret R) := by
  refine enter [.pointer (some r_1)] Try.func33 rfl Try.ntmps33 rfl ?_
  intro a0 hA0
  unfold codec_reader_hash.vc at ht0
  refine wp_seq ?_
  refine wp_region_lit ?_
  refine sq (opk_val hA0 rfl (r_assign rfl) fun a2 hA2 _ => ?_)
  refine sq_end ?_
  have hA3 := hA2.keep [(0, .pointer (some r_1))] ⟨rfl, trivial⟩
  refine then_normal ?_
  refine wp_seq ?_
  refine wp_region_lit ?_
  refine sq (opk_new (fun B => .pointer (some ⟨B, 0, none⟩)) hA3 rfl (r_alloc (cs := [.int .u8 0, .int .u8 0, .int .u8 0, .int .u8 0, .int .u8 0, .int .u8 0, .int .u8 0, .int .u8 0]) ti_51 rfl) fun a6 w5 B_4 hE7 hN8 hB9 hA6 _ => ?_)
  have hN10 : New w B_4 w5 := hN8
  have hC11 : Chg [] w w5 := hE7
  refine sq_end ?_
  have hA12 := hA6.keep [(0, .pointer (some r_1)), (3, .pointer (some (⟨B_4, 0, none⟩ : Addr)))] ⟨rfl, rfl, trivial⟩
  refine then_normal ?_
  refine wp_seq ?_
  refine wp_seq ?_
  refine wp_region_lit ?_
  refine sq (opk_val hA12 rfl (r_move rfl) fun a13 hA13 _ => ?_)
  refine sq_end ?_
  have hA14 := hA13.keep [(0, .pointer (some r_1)), (3, .pointer (some (⟨B_4, 0, none⟩ : Addr))), (5, .int .i64 0)] ⟨rfl, rfl, rfl, trivial⟩
  refine then_normal ?_
  refine wp_block ?_
  have ht101 := ht0 w5 B_4 hN10  hC11
  obtain ⟨J_64, mu_65, h0105, ht104⟩ := ht101
  refine wp_loop_st (σ := Int × Int × Int × Int × Int × Int × Int × Int × Int × World) (fun s a w => Ag 15 a [(0, .pointer (some r_1)), (3, .pointer (some (⟨B_4, 0, none⟩ : Addr))), (5, .int .i64 s.1)] ∧ Box w B_4 51 [.int .u8 s.2.1, .int .u8 s.2.2.1, .int .u8 s.2.2.2.1, .int .u8 s.2.2.2.2.1, .int .u8 s.2.2.2.2.2.1, .int .u8 s.2.2.2.2.2.2.1, .int .u8 s.2.2.2.2.2.2.2.1, .int .u8 s.2.2.2.2.2.2.2.2.1] ∧ w = s.2.2.2.2.2.2.2.2.2 ∧ J_64 s.1 s.2.1 s.2.2.1 s.2.2.2.1 s.2.2.2.2.1 s.2.2.2.2.2.1 s.2.2.2.2.2.2.1 s.2.2.2.2.2.2.2.1 s.2.2.2.2.2.2.2.2.1 s.2.2.2.2.2.2.2.2.2) (fun s => mu_65 s.1 s.2.1 s.2.2.1 s.2.2.2.1 s.2.2.2.2.1 s.2.2.2.2.2.1 s.2.2.2.2.2.2.1 s.2.2.2.2.2.2.2.1 s.2.2.2.2.2.2.2.2.1 s.2.2.2.2.2.2.2.2.2) (0, 0, 0, 0, 0, 0, 0, 0, 0, w5) ⟨hA14.keep [(0, .pointer (some r_1)), (3, .pointer (some (⟨B_4, 0, none⟩ : Addr))), (5, .int .i64 0)] ⟨rfl, rfl, rfl, trivial⟩, hB9, rfl, h0105⟩ ?_
  rintro ⟨x_54, c_55, c_56, c_57, c_58, c_59, c_60, c_61, c_62, w63⟩ a102 w_ ⟨hA102, hB103, hw_, hJ107⟩
  have hw_ : w63 = w_ := hw_.symm
  subst hw_
  have ht106 := ht104 x_54 c_55 c_56 c_57 c_58 c_59 c_60 c_61 c_62 _ hJ107
  refine wp_seq ?_
  refine wp_region_lit ?_
  refine sq (opk_val hA102 rfl (r_lss (hA102.get rfl) rfl) fun a108 hA108 _ => ?_)
  refine sq_end ?_
  have hA109 := hA108.keep [(0, .pointer (some r_1)), (3, .pointer (some (⟨B_4, 0, none⟩ : Addr))), (5, .int .i64 x_54), (6, .bool (decide (x_54 < 8)))] ⟨rfl, rfl, rfl, rfl, trivial⟩
  refine then_normal ?_
  refine wp_seq ?_
  refine wp_cond_split (hA109.get rfl) (fun hc => ?_) (fun hc => ?_)
  · have ht110 := ht106.1 (of_decide_eq_true hc)
    clear hc
    refine wp_skip ?_
    refine then_normal ?_
    refine wp_seq ?_
    refine wp_block ?_
    refine wp_seq ?_
    refine wp_region_lit ?_
    refine sq (opk_val hA109 rfl (r_move (hA109.get rfl)) fun a112 hA112 _ => ?_)
    refine sq (opk_val hA112 rfl (r_assign (hA112.get rfl)) fun a113 hA113 _ => ?_)
    refine sq_end ?_
    have hA114 := hA113.keep [(0, .pointer (some r_1)), (3, .pointer (some (⟨B_4, 0, none⟩ : Addr))), (4, .int .i64 x_54), (5, .int .i64 x_54)] ⟨rfl, rfl, rfl, rfl, trivial⟩
    refine then_normal ?_
    refine wp_region_lit ?_
    refine sq (opk_val hA114 rfl (r_move (hA114.get rfl)) fun a115 hA115 _ => ?_)
    refine sq (opk_val hA115 rfl (r_move (hA115.get rfl)) fun a116 hA116 _ => ?_)
    refine sq (opk_call hA116 rfl (r_call (args := #[.pointer (some r_1)]) Try.func44 (by decide) rfl (map_arr (ml_cons (hA116.get rfl) ml_nil)) rfl) ht110 fun a118 v124 w119 hA118 _ hn121 hz122 hK123 => ?_)
    obtain ⟨r_117, rfl, ht120⟩ := hK123
    have hB125 := hB103.kept hn121 (.head _)
    obtain ⟨hS127, ht128⟩ := ht120
    refine sq (opk_val hA118 rfl (r_indexAddrA (hA118.get rfl) (hA118.get rfl) Try.underlying51 ti_5 hS127) fun a126 hA126 _ => ?_)
    refine sq (opk_store hA126 hB125 (r_store (vs := [.int .u8 r_117]) (((hA126.get rfl)).trans (congrArg (fun a => Value.pointer (some a)) (Addr.addA _ _))) (hA126.get rfl) rfl ti_5 hB125 (Nat.ble_eq_true_of_le (show x_54.toNat + 1 ≤ 8 by have hs_ := hS127; omega)) (ones_all [.int .u8 r_117] rfl)) fun a130 w129 hS131 hB132 hA130 => ?_)
    have hB133 : Box w129 B_4 51 [.int .u8 ((([c_55, c_56, c_57, c_58, c_59, c_60, c_61, c_62] : List Int).set x_54.toNat r_117).getD 0 0), .int .u8 ((([c_55, c_56, c_57, c_58, c_59, c_60, c_61, c_62] : List Int).set x_54.toNat r_117).getD 1 0), .int .u8 ((([c_55, c_56, c_57, c_58, c_59, c_60, c_61, c_62] : List Int).set x_54.toNat r_117).getD 2 0), .int .u8 ((([c_55, c_56, c_57, c_58, c_59, c_60, c_61, c_62] : List Int).set x_54.toNat r_117).getD 3 0), .int .u8 ((([c_55, c_56, c_57, c_58, c_59, c_60, c_61, c_62] : List Int).set x_54.toNat r_117).getD 4 0), .int .u8 ((([c_55, c_56, c_57, c_58, c_59, c_60, c_61, c_62] : List Int).set x_54.toNat r_117).getD 5 0), .int .u8 ((([c_55, c_56, c_57, c_58, c_59, c_60, c_61, c_62] : List Int).set x_54.toNat r_117).getD 6 0), .int .u8 ((([c_55, c_56, c_57, c_58, c_59, c_60, c_61, c_62] : List Int).set x_54.toNat r_117).getD 7 0)] := Box.setA (l := ([c_55, c_56, c_57, c_58, c_59, c_60, c_61, c_62] : List Int)) (f := (fun z => Value.int .u8 z)) (d := 0) hB132 rfl rfl hS127
    have hC134 : Chg [B_4] w119 w129 := hS131
    refine sq_end ?_
    have hA135 := hA130.keep [(0, .pointer (some r_1)), (3, .pointer (some (⟨B_4, 0, none⟩ : Addr))), (5, .int .i64 x_54)] ⟨rfl, rfl, rfl, trivial⟩
    refine block_normal ?_
    refine then_normal ?_
    refine wp_region_lit ?_
    obtain ⟨hS137, ht138⟩ := ht128
    refine sq (opk_val hA135 rfl (r_addI (hA135.get rfl) rfl hS137) fun a136 hA136 _ => ?_)
    refine sq (opk_val hA136 rfl (r_move (hA136.get rfl)) fun a139 hA139 _ => ?_)
    refine sq_end ?_
    have hA140 := hA139.keep [(0, .pointer (some r_1)), (3, .pointer (some (⟨B_4, 0, none⟩ : Addr))), (5, .int .i64 (x_54 + 1))] ⟨rfl, rfl, rfl, trivial⟩
    have ht141 := ht138 w129    hC134
    have hA142 := hA140.keep [(0, .pointer (some r_1)), (3, .pointer (some (⟨B_4, 0, none⟩ : Addr))), (5, .int .i64 (x_54 + 1))] ⟨rfl, rfl, rfl, trivial⟩
    exact then_normal ⟨(x_54 + 1, ((([c_55, c_56, c_57, c_58, c_59, c_60, c_61, c_62] : List Int).set x_54.toNat r_117).getD 0 0), ((([c_55, c_56, c_57, c_58, c_59, c_60, c_61, c_62] : List Int).set x_54.toNat r_117).getD 1 0), ((([c_55, c_56, c_57, c_58, c_59, c_60, c_61, c_62] : List Int).set x_54.toNat r_117).getD 2 0), ((([c_55, c_56, c_57, c_58, c_59, c_60, c_61, c_62] : List Int).set x_54.toNat r_117).getD 3 0), ((([c_55, c_56, c_57, c_58, c_59, c_60, c_61, c_62] : List Int).set x_54.toNat r_117).getD 4 0), ((([c_55, c_56, c_57, c_58, c_59, c_60, c_61, c_62] : List Int).set x_54.toNat r_117).getD 5 0), ((([c_55, c_56, c_57, c_58, c_59, c_60, c_61, c_62] : List Int).set x_54.toNat r_117).getD 6 0), ((([c_55, c_56, c_57, c_58, c_59, c_60, c_61, c_62] : List Int).set x_54.toNat r_117).getD 7 0), w129), ⟨hA142, hB133, rfl, ht141.1⟩, ht141.2⟩
  · have ht111 := ht106.2 (of_decide_eq_false hc)
    clear hc
    refine wp_exit ?_
    refine then_exit ?_
    refine then_exit ?_
    refine block_hit ?_
    have hA143 := hA109.keep [(3, .pointer (some (⟨B_4, 0, none⟩ : Addr)))] ⟨rfl, trivial⟩
    refine then_normal ?_
    refine wp_seq ?_
    refine wp_region_lit ?_
    refine sq (opk_val hA143 rfl (r_loadN (cs := [.int .u8 c_55, .int .u8 c_56, .int .u8 c_57, .int .u8 c_58, .int .u8 c_59, .int .u8 c_60, .int .u8 c_61, .int .u8 c_62]) Try.underlying51 rfl ti_51 (hA143.get rfl) (hB103.part 0 _ rfl)) fun a144 hA144 _ => ?_)
    refine sq (opk_call hA144 rfl (r_call (args := #[.agg #[.int .u8 c_55, .int .u8 c_56, .int .u8 c_57, .int .u8 c_58, .int .u8 c_59, .int .u8 c_60, .int .u8 c_61, .int .u8 c_62]]) Try.func45 (by decide) rfl (map_arr (ml_cons (hA144.get rfl) ml_nil)) rfl) ht111 fun a146 v152 w147 hA146 _ hn149 hz150 hK151 => ?_)
    obtain ⟨r_145, rfl, ht148⟩ := hK151
    have hB153 := hB103.kept hn149 (.head _)
    refine sq (opk_val hA146 rfl (r_assign (hA146.get rfl)) fun a154 hA154 _ => ?_)
    refine sq_end ?_
    have hA155 := hA154.keep [(2, .int .u64 r_145)] ⟨rfl, trivial⟩
    refine then_normal ?_
    refine wp_ret ?_
    exact res_all (vs := [.int .u64 r_145]) rfl hA155 ⟨res_of_tmp hA155 rfl, trivial⟩ ht148

/-- The condition of (*topiary/codec.reader).number. -/
def codec_reader_number.vc (r_1 : Addr) (R : Value → World → Prop) (w : World) : Prop :=
∀ (w4 : World), Chg [] w w4 →
∃ (x_11 : Sl), (w4.cell? (r_1.add 0) = some (Sl.v x_11)) ∧
∃ (x_17 : Int), (w4.cell? (r_1.add 1) = some (.int .i64 x_17)) ∧
∃ (r_0_22 : Int) (r_1_23 : Int) (r_2_24 : Int), (∀ w' : World, Ext w4 w' → Calls Try.prog 46 #[Sl.v x_11, .int .i64 x_17] w' (Ret fun v w'' => Ext w' w'' ∧ v = .tuple #[.int .u64 r_0_22, .int .i64 r_1_23, .int .i64 r_2_24])) ∧
∀ (w35 : World), Chg [] w4 w35 →
∃ (x_53 : Bool), (w35.cell? (r_1.add 2) = some (.bool x_53)) ∧
(((x_53 = true) ∨ (r_2_24 ≠ 0)) →
∃ (B_70 o_71 : Nat) (T_72 : TypeId) (cs_73 : List Value), (r_1.add 2) = ⟨B_70, o_71, none⟩ ∧ Box w35 B_70 T_72 cs_73 ∧ o_71 + 1 ≤ cs_73.length ∧ (∀ b ∈ [], b ≠ B_70) ∧
(∀ w66 : World, Chg [B_70] w35 w66 → Box w66 B_70 T_72 (putAt cs_73 o_71 [.bool true]) →
R (.int .u64 0) w66)) ∧
(((x_53 = false) ∧ (¬ (r_2_24 ≠ 0))) →
∃ (B_91 o_92 : Nat) (T_93 : TypeId) (cs_94 : List Value), (r_1.add 1) = ⟨B_91, o_92, none⟩ ∧ Box w35 B_91 T_93 cs_94 ∧ o_92 + 1 ≤ cs_94.length ∧ (∀ b ∈ [], b ≠ B_91) ∧
(∀ w87 : World, Chg [B_91] w35 w87 → Box w87 B_91 T_93 (putAt cs_94 o_92 [.int .i64 r_1_23]) →
R (.int .u64 r_0_22) w87))
set_option maxHeartbeats 1000000 in
set_option maxRecDepth 10000 in
theorem codec_reader_number.ok (r_1 : Addr) {R : Value → World → Prop} {w : World} (ht0 : codec_reader_number.vc r_1 R w) : Calls Try.prog 34 #[.pointer (some r_1)] w (Ret R) := by
  refine enter [.pointer (some r_1)] Try.func34 rfl Try.ntmps34 rfl ?_
  intro a0 hA0
  unfold codec_reader_number.vc at ht0
  refine wp_seq ?_
  refine wp_region_lit ?_
  refine sq (opk_val hA0 rfl (r_assign rfl) fun a2 hA2 _ => ?_)
  refine sq_end ?_
  have hA3 := hA2.keep [(0, .pointer (some r_1))] ⟨rfl, trivial⟩
  refine then_normal ?_
  refine wp_seq ?_
  refine draw' (by kernel_rfl) fun w4 hE5 => ?_
  have hC6 : Chg [] w w4 := hE5
  have ht7 := ht0 w4    hC6
  obtain ⟨x_11, hx12, ht13⟩ := ht7
  obtain ⟨x_17, hx18, ht19⟩ := ht13
  obtain ⟨r_0_22, r_1_23, r_2_24, hc25, ht26⟩ := ht19
  refine par (D := [[], [0], [0, 1], [0, 1, 2], [], [4], [4, 5], [4, 5, 6], [0, 1, 2, 3, 4, 5, 6, 7], [0, 1, 2, 3, 4, 5, 6, 7, 8], [0, 1, 2, 3, 4, 5, 6, 7, 8, 9], [0, 1, 2, 3, 4, 5, 6, 7, 8, 9], [0, 1, 2, 3, 4, 5, 6, 7, 8, 9], [0, 1, 2, 3, 4, 5, 6, 7, 8, 9, 10], [0, 1, 2, 3, 4, 5, 6, 7, 8, 9, 10, 11, 13], [0, 1, 2, 3, 4, 5, 6, 7, 8, 9, 10, 11, 12, 13, 14]]) (S := [0, 1, 2, 3, 4, 5, 6, 7, 8, 9, 10, 11, 12, 13, 14, 15]) (F := []) (V := VL [(0, fun v _ => v = .pointer (some r_1)), (1, fun v _ => v = .pointer (some r_1)), (2, fun v _ => v = .pointer (some (r_1.add 0))), (3, fun v _ => v = Sl.v x_11), (4, fun v _ => v = .pointer (some r_1)), (5, fun v _ => v = .pointer (some r_1)), (6, fun v _ => v = .pointer (some (r_1.add 1))), (7, fun v _ => v = .int .i64 x_17), (8, fun v _ => v = .tuple #[.int .u64 r_0_22, .int .i64 r_1_23, .int .i64 r_2_24]), (9, fun v _ => v = .tuple #[.int .u64 r_0_22, .int .i64 r_1_23, .int .i64 r_2_24]), (10, fun v _ => v = .int .u64 r_0_22), (11, fun v _ => v = .int .i64 r_1_23), (12, fun v _ => v = .int .i64 r_2_24), (13, fun v _ => v = .int .u64 r_0_22), (14, fun v _ => v = .int .i64 r_1_23), (15, fun v _ => v = .int .i64 r_2_24)]) hA3 (by kernel_rfl) ⟨fun _ _ _ _ h => by first | exact h | (change _ = _ at h; change _ = _; exact h), fun _ _ _ _ h => by first | exact h | (change _ = _ at h; change _ = _; exact h), fun _ _ _ _ h => by first | exact h | (change _ = _ at h; change _ = _; exact h), fun _ _ _ _ h => by first | exact h | (change _ = _ at h; change _ = _; exact h), fun _ _ _ _ h => by first | exact h | (change _ = _ at h; change _ = _; exact h), fun _ _ _ _ h => by first | exact h | (change _ = _ at h; change _ = _; exact h), fun _ _ _ _ h => by first | exact h | (change _ = _ at h; change _ = _; exact h), fun _ _ _ _ h => by first | exact h | (change _ = _ at h; change _ = _; exact h), fun _ _ _ _ h => by first | exact h | (change _ = _ at h; change _ = _; exact h), fun _ _ _ _ h => by first | exact h | (change _ = _ at h; change _ = _; exact h), fun _ _ _ _ h => by first | exact h | (change _ = _ at h; change _ = _; exact h), fun _ _ _ _ h => by first | exact h | (change _ = _ at h; change _ = _; exact h), fun _ _ _ _ h => by first | exact h | (change _ = _ at h; change _ = _; exact h), fun _ _ _ _ h => by first | exact h | (change _ = _ at h; change _ = _; exact h), fun _ _ _ _ h => by first | exact h | (change _ = _ at h; change _ = _; exact h), fun _ _ _ _ h => by first | exact h | (change _ = _ at h; change _ = _; exact h), trivial⟩ ⟨?_, ?_, ?_, ?_, ?_, ?_, ?_, ?_, ?_, ?_, ?_, ?_, ?_, ?_, ?_, ?_, trivial⟩ ?_
  · intro a w hT
    have hAp := hT.ag hA3 [(0, .pointer (some r_1))] ⟨rfl, trivial⟩ (by kernel_rfl)
    exact opk_val hAp rfl (r_move (hAp.get rfl)) fun _ _ e => ⟨_, e, Chg.refl _ _, fun _ => Eq.refl _⟩
  · intro a w hT
    have hAp := hT.ag hA3 [] trivial (by kernel_rfl)
    have e8 : a.tmps.getD 7 undef = .pointer (some r_1) := hT.vals 0 rfl 7 rfl
    have hAp := hAp.add e8
    exact opk_val hAp rfl (r_nilCheck (hAp.get rfl)) fun _ _ e => ⟨_, e, Chg.refl _ _, fun _ => Eq.refl _⟩
  · intro a w hT
    have hAp := hT.ag hA3 [] trivial (by kernel_rfl)
    have e9 : a.tmps.getD 8 undef = .pointer (some r_1) := hT.vals 1 rfl 8 rfl
    have hAp := hAp.add e9
    exact opk_val hAp rfl (r_fieldAddr (hAp.get rfl) Try.underlying63 rfl ti_24 (by decide)) fun _ _ e => ⟨_, e, Chg.refl _ _, fun _ => Eq.refl _⟩
  · intro a w hT
    have hAp := hT.ag hA3 [] trivial (by kernel_rfl)
    have e10 : a.tmps.getD 9 undef = .pointer (some (r_1.add 0)) := hT.vals 2 rfl 9 rfl
    have hAp := hAp.add e10
    exact opk_val hAp rfl (r_load1 Try.underlying24 rfl (hAp.get rfl) (Ext.cell hT.chg hx12)) fun _ _ e => ⟨_, e, Chg.refl _ _, fun _ => Eq.refl _⟩
  · intro a w hT
    have hAp := hT.ag hA3 [(0, .pointer (some r_1))] ⟨rfl, trivial⟩ (by kernel_rfl)
    exact opk_val hAp rfl (r_move (hAp.get rfl)) fun _ _ e => ⟨_, e, Chg.refl _ _, fun _ => Eq.refl _⟩
  · intro a w hT
    have hAp := hT.ag hA3 [] trivial (by kernel_rfl)
    have e14 : a.tmps.getD 11 undef = .pointer (some r_1) := hT.vals 4 rfl 11 rfl
    have hAp := hAp.add e14
    exact opk_val hAp rfl (r_nilCheck (hAp.get rfl)) fun _ _ e => ⟨_, e, Chg.refl _ _, fun _ => Eq.refl _⟩
  · intro a w hT
    have hAp := hT.ag hA3 [] trivial (by kernel_rfl)
    have e15 : a.tmps.getD 12 undef = .pointer (some r_1) := hT.vals 5 rfl 12 rfl
    have hAp := hAp.add e15
    exact opk_val hAp rfl (r_fieldAddr (hAp.get rfl) Try.underlying63 rfl ti_3 (by decide)) fun _ _ e => ⟨_, e, Chg.refl _ _, fun _ => Eq.refl _⟩
  · intro a w hT
    have hAp := hT.ag hA3 [] trivial (by kernel_rfl)
    have e16 : a.tmps.getD 13 undef = .pointer (some (r_1.add 1)) := hT.vals 6 rfl 13 rfl
    have hAp := hAp.add e16
    exact opk_val hAp rfl (r_load1 Try.underlying3 rfl (hAp.get rfl) (Ext.cell hT.chg hx18)) fun _ _ e => ⟨_, e, Chg.refl _ _, fun _ => Eq.refl _⟩
  · intro a w hT
    have hAp := hT.ag hA3 [] trivial (by kernel_rfl)
    have e20 : a.tmps.getD 10 undef = Sl.v x_11 := hT.vals 3 rfl 10 rfl
    have hAp := hAp.add e20
    have e21 : a.tmps.getD 14 undef = .int .i64 x_17 := hT.vals 7 rfl 14 rfl
    have hAp := hAp.add e21
    exact opk_callX hAp rfl (r_call (args := #[Sl.v x_11, .int .i64 x_17]) Try.func46 (by decide) rfl (map_arr (ml_cons (hAp.get rfl) (ml_cons (hAp.get rfl) ml_nil))) rfl) (hc25 w hT.chg) fun _ _ _ _ e hR => ⟨_, e, hR.1, fun _ => hR.2⟩
  · intro a w hT
    have hAp := hT.ag hA3 [] trivial (by kernel_rfl)
    have e27 : a.tmps.getD 15 undef = .tuple #[.int .u64 r_0_22, .int .i64 r_1_23, .int .i64 r_2_24] := hT.vals 8 rfl 15 rfl
    have hAp := hAp.add e27
    exact opk_val hAp rfl (r_move (hAp.get rfl)) fun _ _ e => ⟨_, e, Chg.refl _ _, fun _ => Eq.refl _⟩
  · intro a w hT
    have hAp := hT.ag hA3 [] trivial (by kernel_rfl)
    have e28 : a.tmps.getD 6 undef = .tuple #[.int .u64 r_0_22, .int .i64 r_1_23, .int .i64 r_2_24] := hT.vals 9 rfl 6 rfl
    have hAp := hAp.add e28
    exact opk_val hAp rfl (r_extract (hAp.get rfl) rfl) fun _ _ e => ⟨_, e, Chg.refl _ _, fun _ => Eq.refl _⟩
  · intro a w hT
    have hAp := hT.ag hA3 [] trivial (by kernel_rfl)
    have e29 : a.tmps.getD 6 undef = .tuple #[.int .u64 r_0_22, .int .i64 r_1_23, .int .i64 r_2_24] := hT.vals 9 rfl 6 rfl
    have hAp := hAp.add e29
    exact opk_val hAp rfl (r_extract (hAp.get rfl) rfl) fun _ _ e => ⟨_, e, Chg.refl _ _, fun _ => Eq.refl _⟩
  · intro a w hT
    have hAp := hT.ag hA3 [] trivial (by kernel_rfl)
    have e30 : a.tmps.getD 6 undef = .tuple #[.int .u64 r_0_22, .int .i64 r_1_23, .int .i64 r_2_24] := hT.vals 9 rfl 6 rfl
    have hAp := hAp.add e30
    exact opk_val hAp rfl (r_extract (hAp.get rfl) rfl) fun _ _ e => ⟨_, e, Chg.refl _ _, fun _ => Eq.refl _⟩
  · intro a w hT
    have hAp := hT.ag hA3 [] trivial (by kernel_rfl)
    have e31 : a.tmps.getD 16 undef = .int .u64 r_0_22 := hT.vals 10 rfl 16 rfl
    have hAp := hAp.add e31
    exact opk_val hAp rfl (r_assign (hAp.get rfl)) fun _ _ e => ⟨_, e, Chg.refl _ _, fun _ => Eq.refl _⟩
  · intro a w hT
    have hAp := hT.ag hA3 [] trivial (by kernel_rfl)
    have e32 : a.tmps.getD 17 undef = .int .i64 r_1_23 := hT.vals 11 rfl 17 rfl
    have hAp := hAp.add e32
    exact opk_val hAp rfl (r_assign (hAp.get rfl)) fun _ _ e => ⟨_, e, Chg.refl _ _, fun _ => Eq.refl _⟩
  · intro a w hT
    have hAp := hT.ag hA3 [] trivial (by kernel_rfl)
    have e33 : a.tmps.getD 18 undef = .int .i64 r_2_24 := hT.vals 12 rfl 18 rfl
    have hAp := hAp.add e33
    exact opk_val hAp rfl (r_assign (hAp.get rfl)) fun _ _ e => ⟨_, e, Chg.refl _ _, fun _ => Eq.refl _⟩
  · intro a34 w35 hE36 hag37 hv38
    have hA34 := hag37 [(0, .pointer (some r_1))] ⟨rfl, trivial⟩ (by kernel_rfl)
    have e40 : a34.tmps.getD 3 undef = .int .u64 r_0_22 := hv38 13 rfl 3 rfl
    have hA41 := hA34.add e40
    have e42 : a34.tmps.getD 4 undef = .int .i64 r_1_23 := hv38 14 rfl 4 rfl
    have hA43 := hA41.add e42
    have e44 : a34.tmps.getD 5 undef = .int .i64 r_2_24 := hv38 15 rfl 5 rfl
    have hA45 := hA43.add e44
    have hC46 : Chg [] w4 w35 := hE36
    refine PR_end (by kernel_rfl) ?_
    have hA47 := hA45.keep [(0, .pointer (some r_1)), (3, .int .u64 r_0_22), (4, .int .i64 r_1_23), (5, .int .i64 r_2_24)] ⟨rfl, rfl, rfl, rfl, trivial⟩
    refine then_normal ?_
    refine wp_seq ?_
    refine wp_seq ?_
    refine wp_region_lit ?_
    refine sq (opk_val hA47 rfl (r_move (hA47.get rfl)) fun a48 hA48 _ => ?_)
    refine sq (opk_val hA48 rfl (r_nilCheck (hA48.get rfl)) fun a49 hA49 _ => ?_)
    refine sq (opk_val hA49 rfl (r_fieldAddr (hA49.get rfl) Try.underlying63 rfl ti_4 (by decide)) fun a50 hA50 _ => ?_)
    have ht52 := ht26 w35    hC46
    obtain ⟨x_53, hx54, ht55⟩ := ht52
    refine sq (opk_val hA50 rfl (r_load1 Try.underlying4 rfl (hA50.get rfl) hx54) fun a51 hA51 _ => ?_)
    refine sq (opk_val hA51 rfl (r_move (hA51.get rfl)) fun a56 hA56 _ => ?_)
    refine sq (opk_gval hA56 rfl rfl (g := true) (e := x_53) rfl (fun hg => r_move (hA56.get rfl)) fun a57 hA57 _ => ?_)
    refine sq (opk_gval hA57 rfl rfl (g := true) (e := x_53) rfl (fun hg => r_neq (cv_get (hA57.get rfl) hg) rfl) fun a58 hA58 _ => ?_)
    refine sq (opk_val hA58 rfl (r_pick_or (g := (true && (x_53 == false))) (hA58.get rfl) (hA58.get rfl) (fun he => g_mkf rfl he)) fun a59 hA59 _ => ?_)
    refine sq_end ?_
    have hA60 := hA59.keep [(0, .pointer (some r_1)), (3, .int .u64 r_0_22), (4, .int .i64 r_1_23), (26, .bool (x_53 || (decide (r_2_24 ≠ 0))))] ⟨rfl, rfl, rfl, rfl, trivial⟩
    refine then_normal ?_
    refine wp_cond_split (hA60.get rfl) (fun hc => ?_) (fun hc => ?_)
    · have ht61 := ht55.1 ((b_or_t hc).imp (fun h => h) (fun h => (of_decide_eq_true h)))
      clear hc
      refine wp_seq ?_
      refine wp_region_lit ?_
      refine sq (opk_val hA60 rfl (r_move (hA60.get rfl)) fun a63 hA63 _ => ?_)
      refine sq (opk_val hA63 rfl (r_nilCheck (hA63.get rfl)) fun a64 hA64 _ => ?_)
      refine sq (opk_val hA64 rfl (r_fieldAddr (hA64.get rfl) Try.underlying63 rfl ti_4 (by decide)) fun a65 hA65 _ => ?_)
      obtain ⟨B_70, o_71, T_72, cs_73, he74, hb75, hl76, hx77, ht78⟩ := ht61
      refine sq (opk_store hA65 hb75 (r_store (vs := [.bool true]) (((hA65.get rfl)).trans (congrArg (fun a => Value.pointer (some a)) he74)) rfl rfl ti_4 hb75 (Nat.ble_eq_true_of_le hl76) (ones_all [.bool true] rfl)) fun a67 w66 hS68 hB69 hA67 => ?_)
      have ht79 := ht78 w66 hS68 hB69
      refine sq_end ?_
      have hA80 := hA67.keep [] trivial
      refine then_normal ?_
      refine wp_seq ?_
      refine wp_region_lit ?_
      refine sq (opk_val hA80 rfl (r_assign rfl) fun a81 hA81 _ => ?_)
      refine sq_end ?_
      have hA82 := hA81.keep [(2, .int .u64 0)] ⟨rfl, trivial⟩
      refine then_normal ?_
      refine wp_ret ?_
      refine then_ret ?_
      exact res_all (vs := [.int .u64 0]) rfl hA82 ⟨res_of_tmp hA82 rfl, trivial⟩ ht79
    · have ht62 := ht55.2 ⟨(b_or_f hc).1, (of_decide_eq_false (b_or_f hc).2)⟩
      clear hc
      refine wp_skip ?_
      refine then_normal ?_
      refine wp_seq ?_
      refine wp_region_lit ?_
      refine sq (opk_val hA60 rfl (r_move (hA60.get rfl)) fun a83 hA83 _ => ?_)
      refine sq (opk_val hA83 rfl (r_move (hA83.get rfl)) fun a84 hA84 _ => ?_)
      refine sq (opk_val hA84 rfl (r_nilCheck (hA84.get rfl)) fun a85 hA85 _ => ?_)
      refine sq (opk_val hA85 rfl (r_fieldAddr (hA85.get rfl) Try.underlying63 rfl ti_3 (by decide)) fun a86 hA86 _ => ?_)
      obtain ⟨B_91, o_92, T_93, cs_94, he95, hb96, hl97, hx98, ht99⟩ := ht62
      refine sq (opk_store hA86 hb96 (r_store (vs := [.int .i64 r_1_23]) (((hA86.get rfl)).trans (congrArg (fun a => Value.pointer (some a)) he95)) (hA86.get rfl) rfl ti_3 hb96 (Nat.ble_eq_true_of_le hl97) (ones_all [.int .i64 r_1_23] rfl)) fun a88 w87 hS89 hB90 hA88 => ?_)
      have ht100 := ht99 w87 hS89 hB90
      refine sq_end ?_
      have hA101 := hA88.keep [(3, .int .u64 r_0_22)] ⟨rfl, trivial⟩
      refine then_normal ?_
      refine wp_seq ?_
      refine wp_region_lit ?_
      refine sq (opk_val hA101 rfl (r_move (hA101.get rfl)) fun a102 hA102 _ => ?_)
      refine sq (opk_val hA102 rfl (r_assign (hA102.get rfl)) fun a103 hA103 _ => ?_)
      refine sq_end ?_
      have hA104 := hA103.keep [(2, .int .u64 r_0_22)] ⟨rfl, trivial⟩
      refine then_normal ?_
      refine wp_ret ?_
      exact res_all (vs := [.int .u64 r_0_22]) rfl hA104 ⟨res_of_tmp hA104 rfl, trivial⟩ ht100

/-- The condition of (*topiary/codec.reader).text. -/
def codec_reader_text.vc (r_1 : Addr) (R : Value → World → Prop) (w : World) : Prop :=
∀ (w4 : World), Chg [] w w4 →
∃ (x_11 : Sl), (w4.cell? (r_1.add 0) = some (Sl.v x_11)) ∧
∃ (x_17 : Int), (w4.cell? (r_1.add 1) = some (.int .i64 x_17)) ∧
∃ (x_23 : Sl), (w4.cell? (r_1.add 0) = some (Sl.v x_23)) ∧
∃ (r_0_30 : Str) (r_1_31 : Int) (r_2_32 : Int), (∀ w' : World, Ext w4 w' → Calls Try.prog 47 #[Sl.v x_11, .int .i64 x_17, .int .i64 (x_23.n : Int)] w' (Ret fun v w'' => Ext w' w'' ∧ v = .tuple #[.string (Bs r_0_30), .int .i64 r_1_31, .int .i64 r_2_32])) ∧
∀ (w43 : World), Chg [] w4 w43 →
∃ (x_61 : Bool), (w43.cell? (r_1.add 2) = some (.bool x_61)) ∧
(((x_61 = true) ∨ (r_2_32 ≠ 0)) →
∃ (B_78 o_79 : Nat) (T_80 : TypeId) (cs_81 : List Value), (r_1.add 2) = ⟨B_78, o_79, none⟩ ∧ Box w43 B_78 T_80 cs_81 ∧ o_79 + 1 ≤ cs_81.length ∧ (∀ b ∈ [], b ≠ B_78) ∧
(∀ w74 : World, Chg [B_78] w43 w74 → Box w74 B_78 T_80 (putAt cs_81 o_79 [.bool true]) →
R (.string (Bs ([] : Str))) w74)) ∧
(((x_61 = false) ∧ (¬ (r_2_32 ≠ 0))) →
∃ (B_99 o_100 : Nat) (T_101 : TypeId) (cs_102 : List Value), (r_1.add 1) = ⟨B_99, o_100, none⟩ ∧ Box w43 B_99 T_101 cs_102 ∧ o_100 + 1 ≤ cs_102.length ∧ (∀ b ∈ [], b ≠ B_99) ∧
(∀ w95 : World, Chg [B_99] w43 w95 → Box w95 B_99 T_101 (putAt cs_102 o_100 [.int .i64 r_1_31]) →
R (.string (Bs r_0_30)) w95))
set_option maxHeartbeats 1000000 in
set_option maxRecDepth 10000 in
theorem codec_reader_text.ok (r_1 : Addr) {R : Value → World → Prop} {w : World} (ht0 : codec_reader_text.vc r_1 R w) : Calls Try.prog 35 #[.pointer (some r_1)] w (Ret R) := by
  refine enter [.pointer (some r_1)] Try.func35 rfl Try.ntmps35 rfl ?_
  intro a0 hA0
  unfold codec_reader_text.vc at ht0
  refine wp_seq ?_
  refine wp_region_lit ?_
  refine sq (opk_val hA0 rfl (r_assign rfl) fun a2 hA2 _ => ?_)
  refine sq_end ?_
  have hA3 := hA2.keep [(0, .pointer (some r_1))] ⟨rfl, trivial⟩
  refine then_normal ?_
  refine wp_seq ?_
  refine draw' (by kernel_rfl) fun w4 hE5 => ?_
  have hC6 : Chg [] w w4 := hE5
  have ht7 := ht0 w4    hC6
  obtain ⟨x_11, hx12, ht13⟩ := ht7
  obtain ⟨x_17, hx18, ht19⟩ := ht13
  obtain ⟨x_23, hx24, ht25⟩ := ht19
  obtain ⟨r_0_30, r_1_31, r_2_32, hc33, ht34⟩ := ht25
  refine par (D := [[], [0], [0, 1], [0, 1, 2], [], [4], [4, 5], [4, 5, 6], [], [8], [8, 9], [8, 9, 10], [8, 9, 10, 11], [0, 1, 2, 3, 4, 5, 6, 7, 8, 9, 10, 11, 12], [0, 1, 2, 3, 4, 5, 6, 7, 8, 9, 10, 11, 12, 13], [0, 1, 2, 3, 4, 5, 6, 7, 8, 9, 10, 11, 12, 13, 14], [0, 1, 2, 3, 4, 5, 6, 7, 8, 9, 10, 11, 12, 13, 14], [0, 1, 2, 3, 4, 5, 6, 7, 8, 9, 10, 11, 12, 13, 14], [0, 1, 2, 3, 4, 5, 6, 7, 8, 9, 10, 11, 12, 13, 14, 15], [0, 1, 2, 3, 4, 5, 6, 7, 8, 9, 10, 11, 12, 13, 14, 15, 16, 18], [0, 1, 2, 3, 4, 5, 6, 7, 8, 9, 10, 11, 12, 13, 14, 15, 16, 17, 18, 19]]) (S := [0, 1, 2, 3, 4, 5, 6, 7, 8, 9, 10, 11, 12, 13, 14, 15, 16, 17, 18, 19, 20]) (F := []) (V := VL [(0, fun v _ => v = .pointer (some r_1)), (1, fun v _ => v = .pointer (some r_1)), (2, fun v _ => v = .pointer (some (r_1.add 0))), (3, fun v _ => v = Sl.v x_11), (4, fun v _ => v = .pointer (some r_1)), (5, fun v _ => v = .pointer (some r_1)), (6, fun v _ => v = .pointer (some (r_1.add 1))), (7, fun v _ => v = .int .i64 x_17), (8, fun v _ => v = .pointer (some r_1)), (9, fun v _ => v = .pointer (some r_1)), (10, fun v _ => v = .pointer (some (r_1.add 0))), (11, fun v _ => v = Sl.v x_23), (12, fun v _ => v = .int .i64 (x_23.n : Int)), (13, fun v _ => v = .tuple #[.string (Bs r_0_30), .int .i64 r_1_31, .int .i64 r_2_32]), (14, fun v _ => v = .tuple #[.string (Bs r_0_30), .int .i64 r_1_31, .int .i64 r_2_32]), (15, fun v _ => v = .string (Bs r_0_30)), (16, fun v _ => v = .int .i64 r_1_31), (17, fun v _ => v = .int .i64 r_2_32), (18, fun v _ => v = .string (Bs r_0_30)), (19, fun v _ => v = .int .i64 r_1_31), (20, fun v _ => v = .int .i64 r_2_32)]) hA3 (by kernel_rfl) ⟨fun _ _ _ _ h => by first | exact h | (change _ = _ at h; change _ = _; exact h), fun _ _ _ _ h => by first | exact h | (change _ = _ at h; change _ = _; exact h), fun _ _ _ _ h => by first | exact h | (change _ = _ at h; change _ = _; exact h), fun _ _ _ _ h => by first | exact h | (change _ = _ at h; change _ = _; exact h), fun _ _ _ _ h => by first | exact h | (change _ = _ at h; change _ = _; exact h), fun _ _ _ _ h => by first | exact h | (change _ = _ at h; change _ = _; exact h), fun _ _ _ _ h => by first | exact h | (change _ = _ at h; change _ = _; exact h), fun _ _ _ _ h => by first | exact h | (change _ = _ at h; change _ = _; exact h), fun _ _ _ _ h => by first | exact h | (change _ = _ at h; change _ = _; exact h), fun _ _ _ _ h => by first | exact h | (change _ = _ at h; change _ = _; exact h), fun _ _ _ _ h => by first | exact h | (change _ = _ at h; change _ = _; exact h), fun _ _ _ _ h => by first | exact h | (change _ = _ at h; change _ = _; exact h), fun _ _ _ _ h => by first | exact h | (change _ = _ at h; change _ = _; exact h), fun _ _ _ _ h => by first | exact h | (change _ = _ at h; change _ = _; exact h), fun _ _ _ _ h => by first | exact h | (change _ = _ at h; change _ = _; exact h), fun _ _ _ _ h => by first | exact h | (change _ = _ at h; change _ = _; exact h), fun _ _ _ _ h => by first | exact h | (change _ = _ at h; change _ = _; exact h), fun _ _ _ _ h => by first | exact h | (change _ = _ at h; change _ = _; exact h), fun _ _ _ _ h => by first | exact h | (change _ = _ at h; change _ = _; exact h), fun _ _ _ _ h => by first | exact h | (change _ = _ at h; change _ = _; exact h), fun _ _ _ _ h => by first | exact h | (change _ = _ at h; change _ = _; exact h), trivial⟩ ⟨?_, ?_, ?_, ?_, ?_, ?_, ?_, ?_, ?_, ?_, ?_, ?_, ?_, ?_, ?_, ?_, ?_, ?_, ?_, ?_, ?_, trivial⟩ ?_
  · intro a w hT
    have hAp := hT.ag hA3 [(0, .pointer (some r_1))] ⟨rfl, trivial⟩ (by kernel_rfl)
    exact opk_val hAp rfl (r_move (hAp.get rfl)) fun _ _ e => ⟨_, e, Chg.refl _ _, fun _ => Eq.refl _⟩
  · intro a w hT
    have hAp := hT.ag hA3 [] trivial (by kernel_rfl)
    have e8 : a.tmps.getD 7 undef = .pointer (some r_1) := hT.vals 0 rfl 7 rfl
    have hAp := hAp.add e8
    exact opk_val hAp rfl (r_nilCheck (hAp.get rfl)) fun _ _ e => ⟨_, e, Chg.refl _ _, fun _ => Eq.refl _⟩
  · intro a w hT
    have hAp := hT.ag hA3 [] trivial (by kernel_rfl)
    have e9 : a.tmps.getD 8 undef = .pointer (some r_1) := hT.vals 1 rfl 8 rfl
    have hAp := hAp.add e9
    exact opk_val hAp rfl (r_fieldAddr (hAp.get rfl) Try.underlying63 rfl ti_24 (by decide)) fun _ _ e => ⟨_, e, Chg.refl _ _, fun _ => Eq.refl _⟩
  · intro a w hT
    have hAp := hT.ag hA3 [] trivial (by kernel_rfl)
    have e10 : a.tmps.getD 9 undef = .pointer (some (r_1.add 0)) := hT.vals 2 rfl 9 rfl
    have hAp := hAp.add e10
    exact opk_val hAp rfl (r_load1 Try.underlying24 rfl (hAp.get rfl) (Ext.cell hT.chg hx12)) fun _ _ e => ⟨_, e, Chg.refl _ _, fun _ => Eq.refl _⟩
  · intro a w hT
    have hAp := hT.ag hA3 [(0, .pointer (some r_1))] ⟨rfl, trivial⟩ (by kernel_rfl)
    exact opk_val hAp rfl (r_move (hAp.get rfl)) fun _ _ e => ⟨_, e, Chg.refl _ _, fun _ => Eq.refl _⟩
  · intro a w hT
    have hAp := hT.ag hA3 [] trivial (by kernel_rfl)
    have e14 : a.tmps.getD 11 undef = .pointer (some r_1) := hT.vals 4 rfl 11 rfl
    have hAp := hAp.add e14
    exact opk_val hAp rfl (r_nilCheck (hAp.get rfl)) fun _ _ e => ⟨_, e, Chg.refl _ _, fun _ => Eq.refl _⟩
  · intro a w hT
    have hAp := hT.ag hA3 [] trivial (by kernel_rfl)
    have e15 : a.tmps.getD 12 undef = .pointer (some r_1) := hT.vals 5 rfl 12 rfl
    have hAp := hAp.add e15
    exact opk_val hAp rfl (r_fieldAddr (hAp.get rfl) Try.underlying63 rfl ti_3 (by decide)) fun _ _ e => ⟨_, e, Chg.refl _ _, fun _ => Eq.refl _⟩
  · intro a w hT
    have hAp := hT.ag hA3 [] trivial (by kernel_rfl)
    have e16 : a.tmps.getD 13 undef = .pointer (some (r_1.add 1)) := hT.vals 6 rfl 13 rfl
    have hAp := hAp.add e16
    exact opk_val hAp rfl (r_load1 Try.underlying3 rfl (hAp.get rfl) (Ext.cell hT.chg hx18)) fun _ _ e => ⟨_, e, Chg.refl _ _, fun _ => Eq.refl _⟩
  · intro a w hT
    have hAp := hT.ag hA3 [(0, .pointer (some r_1))] ⟨rfl, trivial⟩ (by kernel_rfl)
    exact opk_val hAp rfl (r_move (hAp.get rfl)) fun _ _ e => ⟨_, e, Chg.refl _ _, fun _ => Eq.refl _⟩
  · intro a w hT
    have hAp := hT.ag hA3 [] trivial (by kernel_rfl)
    have e20 : a.tmps.getD 15 undef = .pointer (some r_1) := hT.vals 8 rfl 15 rfl
    have hAp := hAp.add e20
    exact opk_val hAp rfl (r_nilCheck (hAp.get rfl)) fun _ _ e => ⟨_, e, Chg.refl _ _, fun _ => Eq.refl _⟩
  · intro a w hT
    have hAp := hT.ag hA3 [] trivial (by kernel_rfl)
    have e21 : a.tmps.getD 16 undef = .pointer (some r_1) := hT.vals 9 rfl 16 rfl
    have hAp := hAp.add e21
    exact opk_val hAp rfl (r_fieldAddr (hAp.get rfl) Try.underlying63 rfl ti_24 (by decide)) fun _ _ e => ⟨_, e, Chg.refl _ _, fun _ => Eq.refl _⟩
  · intro a w hT
    have hAp := hT.ag hA3 [] trivial (by kernel_rfl)
    have e22 : a.tmps.getD 17 undef = .pointer (some (r_1.add 0)) := hT.vals 10 rfl 17 rfl
    have hAp := hAp.add e22
    exact opk_val hAp rfl (r_load1 Try.underlying24 rfl (hAp.get rfl) (Ext.cell hT.chg hx24)) fun _ _ e => ⟨_, e, Chg.refl _ _, fun _ => Eq.refl _⟩
  · intro a w hT
    have hAp := hT.ag hA3 [] trivial (by kernel_rfl)
    have e26 : a.tmps.getD 18 undef = Sl.v x_23 := hT.vals 11 rfl 18 rfl
    have hAp := hAp.add e26
    exact opk_val hAp rfl (r_len (hAp.get rfl) Try.underlying24) fun _ _ e => ⟨_, e, Chg.refl _ _, fun _ => Eq.refl _⟩
  · intro a w hT
    have hAp := hT.ag hA3 [] trivial (by kernel_rfl)
    have e27 : a.tmps.getD 10 undef = Sl.v x_11 := hT.vals 3 rfl 10 rfl
    have hAp := hAp.add e27
    have e28 : a.tmps.getD 14 undef = .int .i64 x_17 := hT.vals 7 rfl 14 rfl
    have hAp := hAp.add e28
    have e29 : a.tmps.getD 19 undef = .int .i64 (x_23.n : Int) := hT.vals 12 rfl 19 rfl
    have hAp := hAp.add e29
    exact opk_callX hAp rfl (r_call (args := #[Sl.v x_11, .int .i64 x_17, .int .i64 (x_23.n : Int)]) Try.func47 (by decide) rfl (map_arr (ml_cons (hAp.get rfl) (ml_cons (hAp.get rfl) (ml_cons (hAp.get rfl) ml_nil)))) rfl) (hc33 w hT.chg) fun _ _ _ _ e hR => ⟨_, e, hR.1, fun _ => hR.2⟩
  · intro a w hT
    have hAp := hT.ag hA3 [] trivial (by kernel_rfl)
    have e35 : a.tmps.getD 20 undef = .tuple #[.string (Bs r_0_30), .int .i64 r_1_31, .int .i64 r_2_32] := hT.vals 13 rfl 20 rfl
    have hAp := hAp.add e35
    exact opk_val hAp rfl (r_move (hAp.get rfl)) fun _ _ e => ⟨_, e, Chg.refl _ _, fun _ => Eq.refl _⟩
  · intro a w hT
    have hAp := hT.ag hA3 [] trivial (by kernel_rfl)
    have e36 : a.tmps.getD 6 undef = .tuple #[.string (Bs r_0_30), .int .i64 r_1_31, .int .i64 r_2_32] := hT.vals 14 rfl 6 rfl
    have hAp := hAp.add e36
    exact opk_val hAp rfl (r_extract (hAp.get rfl) rfl) fun _ _ e => ⟨_, e, Chg.refl _ _, fun _ => Eq.refl _⟩
  · intro a w hT
    have hAp := hT.ag hA3 [] trivial (by kernel_rfl)
    have e37 : a.tmps.getD 6 undef = .tuple #[.string (Bs r_0_30), .int .i64 r_1_31, .int .i64 r_2_32] := hT.vals 14 rfl 6 rfl
    have hAp := hAp.add e37
    exact opk_val hAp rfl (r_extract (hAp.get rfl) rfl) fun _ _ e => ⟨_, e, Chg.refl _ _, fun _ => Eq.refl _⟩
  · intro a w hT
    have hAp := hT.ag hA3 [] trivial (by kernel_rfl)
    have e38 : a.tmps.getD 6 undef = .tuple #[.string (Bs r_0_30), .int .i64 r_1_31, .int .i64 r_2_32] := hT.vals 14 rfl 6 rfl
    have hAp := hAp.add e38
    exact opk_val hAp rfl (r_extract (hAp.get rfl) rfl) fun _ _ e => ⟨_, e, Chg.refl _ _, fun _ => Eq.refl _⟩
  · intro a w hT
    have hAp := hT.ag hA3 [] trivial (by kernel_rfl)
    have e39 : a.tmps.getD 21 undef = .string (Bs r_0_30) := hT.vals 15 rfl 21 rfl
    have hAp := hAp.add e39
    exact opk_val hAp rfl (r_assign (hAp.get rfl)) fun _ _ e => ⟨_, e, Chg.refl _ _, fun _ => Eq.refl _⟩
  · intro a w hT
    have hAp := hT.ag hA3 [] trivial (by kernel_rfl)
    have e40 : a.tmps.getD 22 undef = .int .i64 r_1_31 := hT.vals 16 rfl 22 rfl
    have hAp := hAp.add e40
    exact opk_val hAp rfl (r_assign (hAp.get rfl)) fun _ _ e => ⟨_, e, Chg.refl _ _, fun _ => Eq.refl _⟩
  · intro a w hT
    have hAp := hT.ag hA3 [] trivial (by kernel_rfl)
    have e41 : a.tmps.getD 23 undef = .int .i64 r_2_32 := hT.vals 17 rfl 23 rfl
    have hAp := hAp.add e41
    exact opk_val hAp rfl (r_assign (hAp.get rfl)) fun _ _ e => ⟨_, e, Chg.refl _ _, fun _ => Eq.refl _⟩
  · intro a42 w43 hE44 hag45 hv46
    have hA42 := hag45 [(0, .pointer (some r_1))] ⟨rfl, trivial⟩ (by kernel_rfl)
    have e48 : a42.tmps.getD 3 undef = .string (Bs r_0_30) := hv46 18 rfl 3 rfl
    have hA49 := hA42.add e48
    have e50 : a42.tmps.getD 4 undef = .int .i64 r_1_31 := hv46 19 rfl 4 rfl
    have hA51 := hA49.add e50
    have e52 : a42.tmps.getD 5 undef = .int .i64 r_2_32 := hv46 20 rfl 5 rfl
    have hA53 := hA51.add e52
    have hC54 : Chg [] w4 w43 := hE44
    refine PR_end (by kernel_rfl) ?_
    have hA55 := hA53.keep [(0, .pointer (some r_1)), (3, .string (Bs r_0_30)), (4, .int .i64 r_1_31), (5, .int .i64 r_2_32)] ⟨rfl, rfl, rfl, rfl, trivial⟩
    refine then_normal ?_
    refine wp_seq ?_
    refine wp_seq ?_
    refine wp_region_lit ?_
    refine sq (opk_val hA55 rfl (r_move (hA55.get rfl)) fun a56 hA56 _ => ?_)
    refine sq (opk_val hA56 rfl (r_nilCheck (hA56.get rfl)) fun a57 hA57 _ => ?_)
    refine sq (opk_val hA57 rfl (r_fieldAddr (hA57.get rfl) Try.underlying63 rfl ti_4 (by decide)) fun a58 hA58 _ => ?_)
    have ht60 := ht34 w43    hC54
    obtain ⟨x_61, hx62, ht63⟩ := ht60
    refine sq (opk_val hA58 rfl (r_load1 Try.underlying4 rfl (hA58.get rfl) hx62) fun a59 hA59 _ => ?_)
    refine sq (opk_val hA59 rfl (r_move (hA59.get rfl)) fun a64 hA64 _ => ?_)
    refine sq (opk_gval hA64 rfl rfl (g := true) (e := x_61) rfl (fun hg => r_move (hA64.get rfl)) fun a65 hA65 _ => ?_)
    refine sq (opk_gval hA65 rfl rfl (g := true) (e := x_61) rfl (fun hg => r_neq (cv_get (hA65.get rfl) hg) rfl) fun a66 hA66 _ => ?_)
    refine sq (opk_val hA66 rfl (r_pick_or (g := (true && (x_61 == false))) (hA66.get rfl) (hA66.get rfl) (fun he => g_mkf rfl he)) fun a67 hA67 _ => ?_)
    refine sq_end ?_
    have hA68 := hA67.keep [(0, .pointer (some r_1)), (3, .string (Bs r_0_30)), (4, .int .i64 r_1_31), (31, .bool (x_61 || (decide (r_2_32 ≠ 0))))] ⟨rfl, rfl, rfl, rfl, trivial⟩
    refine then_normal ?_
    refine wp_cond_split (hA68.get rfl) (fun hc => ?_) (fun hc => ?_)
    · have ht69 := ht63.1 ((b_or_t hc).imp (fun h => h) (fun h => (of_decide_eq_true h)))
      clear hc
      refine wp_seq ?_
      refine wp_region_lit ?_
      refine sq (opk_val hA68 rfl (r_move (hA68.get rfl)) fun a71 hA71 _ => ?_)
      refine sq (opk_val hA71 rfl (r_nilCheck (hA71.get rfl)) fun a72 hA72 _ => ?_)
      refine sq (opk_val hA72 rfl (r_fieldAddr (hA72.get rfl) Try.underlying63 rfl ti_4 (by decide)) fun a73 hA73 _ => ?_)
      obtain ⟨B_78, o_79, T_80, cs_81, he82, hb83, hl84, hx85, ht86⟩ := ht69
      refine sq (opk_store hA73 hb83 (r_store (vs := [.bool true]) (((hA73.get rfl)).trans (congrArg (fun a => Value.pointer (some a)) he82)) rfl rfl ti_4 hb83 (Nat.ble_eq_true_of_le hl84) (ones_all [.bool true] rfl)) fun a75 w74 hS76 hB77 hA75 => ?_)
      have ht87 := ht86 w74 hS76 hB77
      refine sq_end ?_
      have hA88 := hA75.keep [] trivial
      refine then_normal ?_
      refine wp_seq ?_
      refine wp_region_lit ?_
      refine sq (opk_val hA88 rfl (r_assign rfl) fun a89 hA89 _ => ?_)
      refine sq_end ?_
      have hA90 := hA89.keep [(2, .string (Bs ([] : Str)))] ⟨rfl, trivial⟩
      refine then_normal ?_
      refine wp_ret ?_
      refine then_ret ?_
      exact res_all (vs := [.string (Bs ([] : Str))]) rfl hA90 ⟨res_of_tmp hA90 rfl, trivial⟩ ht87
    · have ht70 := ht63.2 ⟨(b_or_f hc).1, (of_decide_eq_false (b_or_f hc).2)⟩
      clear hc
      refine wp_skip ?_
      refine then_normal ?_
      refine wp_seq ?_
      refine wp_region_lit ?_
      refine sq (opk_val hA68 rfl (r_move (hA68.get rfl)) fun a91 hA91 _ => ?_)
      refine sq (opk_val hA91 rfl (r_move (hA91.get rfl)) fun a92 hA92 _ => ?_)
      refine sq (opk_val hA92 rfl (r_nilCheck (hA92.get rfl)) fun a93 hA93 _ => ?_)
      refine sq (opk_val hA93 rfl (r_fieldAddr (hA93.get rfl) Try.underlying63 rfl ti_3 (by decide)) fun a94 hA94 _ => ?_)
      obtain ⟨B_99, o_100, T_101, cs_102, he103, hb104, hl105, hx106, ht107⟩ := ht70
      refine sq (opk_store hA94 hb104 (r_store (vs := [.int .i64 r_1_31]) (((hA94.get rfl)).trans (congrArg (fun a => Value.pointer (some a)) he103)) (hA94.get rfl) rfl ti_3 hb104 (Nat.ble_eq_true_of_le hl105) (ones_all [.int .i64 r_1_31] rfl)) fun a96 w95 hS97 hB98 hA96 => ?_)
      have ht108 := ht107 w95 hS97 hB98
      refine sq_end ?_
      have hA109 := hA96.keep [(3, .string (Bs r_0_30))] ⟨rfl, trivial⟩
      refine then_normal ?_
      refine wp_seq ?_
      refine wp_region_lit ?_
      refine sq (opk_val hA109 rfl (r_move (hA109.get rfl)) fun a110 hA110 _ => ?_)
      refine sq (opk_val hA110 rfl (r_assign (hA110.get rfl)) fun a111 hA111 _ => ?_)
      refine sq_end ?_
      have hA112 := hA111.keep [(2, .string (Bs r_0_30))] ⟨rfl, trivial⟩
      refine then_normal ?_
      refine wp_ret ?_
      exact res_all (vs := [.string (Bs r_0_30)]) rfl hA112 ⟨res_of_tmp hA112 rfl, trivial⟩ ht108

/-- The condition of (*topiary/codec.reader).op. -/
def codec_reader_op.vc (r_1 : Addr) (all_2 : Sl) (R : Value → World → Prop) (w : World) : Prop :=
∀ (w4 : World) (B_3 : Nat), New w B_3 w4 → Chg [] w w4 →
CallK Try.prog 44 #[.pointer (some r_1)] w4 [B_3] (fun v w16 => ∃ (r_14 : Int), v = .int .u8 r_14 ∧
(I64 r_14) ∧
CallK Try.prog 34 #[.pointer (some r_1)] w16 [B_3] (fun v w29 => ∃ (r_27 : Int), v = .int .u64 r_27 ∧
((r_14 = 1) →
∀ (w48 : World) (B_38 : Nat), New w29 B_38 w48 → Chg [] w29 w48 →
CallK Try.prog 34 #[.pointer (some r_1)] w48 [B_3, B_38] (fun v w69 => ∃ (r_67 : Int), v = .int .u64 r_67 ∧
CallK Try.prog 34 #[.pointer (some r_1)] w69 [B_3, B_38] (fun v w81 => ∃ (r_79 : Int), v = .int .u64 r_79 ∧
CallK Try.prog 34 #[.pointer (some r_1)] w81 [B_3, B_38] (fun v w93 => ∃ (r_91 : Int), v = .int .u64 r_91 ∧
∀ (w119 : World), Chg [B_38] w93 w119 →
CallK Try.prog 48 #[.pointer (some r_1), Sl.v all_2] w119 [B_3, B_38] (fun v w132 => ∃ (r_130 : Str), v = .string (Bs r_130) ∧
CallK Try.prog 48 #[.pointer (some r_1), Sl.v all_2] w132 [B_3, B_38] (fun v w144 => ∃ (r_142 : Str), v = .string (Bs r_142) ∧
∀ (w170 : World), Chg [B_3, B_38] w144 w170 →
R (.agg #[.int .i64 r_14, .int .i64 (IntKind.i64.wrap r_27), .int .i64 (IntKind.i64.wrap r_67), .int .i64 (IntKind.i64.wrap r_79), .int .i64 (IntKind.i64.wrap r_91), .string (Bs r_130), .string (Bs r_142)]) w170)))))) ∧
((¬ (r_14 = 1)) →
((r_14 = 3) →
∀ (w48 : World) (B_38 : Nat), New w29 B_38 w48 → Chg [] w29 w48 →
CallK Try.prog 34 #[.pointer (some r_1)] w48 [B_3, B_38] (fun v w188 => ∃ (r_186 : Int), v = .int .u64 r_186 ∧
CallK Try.prog 34 #[.pointer (some r_1)] w188 [B_3, B_38] (fun v w200 => ∃ (r_198 : Int), v = .int .u64 r_198 ∧
∀ (w227 : World), Chg [B_3, B_38] w200 w227 →
R (.agg #[.int .i64 r_14, .int .i64 (IntKind.i64.wrap r_27), .int .i64 (IntKind.i64.wrap r_186), .int .i64 (IntKind.i64.wrap r_198), .int .i64 0, .string (Bs ([] : Str)), .string (Bs ([] : Str))]) w227))) ∧
((¬ (r_14 = 3)) →
((r_14 = 4) →
∀ (w48 : World) (B_38 : Nat), New w29 B_38 w48 → Chg [] w29 w48 →
CallK Try.prog 48 #[.pointer (some r_1), Sl.v all_2] w48 [B_3, B_38] (fun v w246 => ∃ (r_244 : Str), v = .string (Bs r_244) ∧
CallK Try.prog 48 #[.pointer (some r_1), Sl.v all_2] w246 [B_3, B_38] (fun v w258 => ∃ (r_256 : Str), v = .string (Bs r_256) ∧
∀ (w284 : World), Chg [B_3, B_38] w258 w284 →
R (.agg #[.int .i64 r_14, .int .i64 (IntKind.i64.wrap r_27), .int .i64 0, .int .i64 0, .int .i64 0, .string (Bs r_244), .string (Bs r_256)]) w284))) ∧
((¬ (r_14 = 4)) →
((r_14 = 5) →
∀ (w48 : World) (B_38 : Nat), New w29 B_38 w48 → Chg [] w29 w48 →
CallK Try.prog 48 #[.pointer (some r_1), Sl.v all_2] w48 [B_3, B_38] (fun v w303 => ∃ (r_301 : Str), v = .string (Bs r_301) ∧
∀ (w321 : World), Chg [B_3, B_38] w303 w321 →
R (.agg #[.int .i64 r_14, .int .i64 (IntKind.i64.wrap r_27), .int .i64 0, .int .i64 0, .int .i64 0, .string (Bs r_301), .string (Bs ([] : Str))]) w321)) ∧
((¬ (r_14 = 5)) →
((r_14 = 6) →
∀ (w48 : World) (B_38 : Nat), New w29 B_38 w48 → Chg [] w29 w48 →
CallK Try.prog 48 #[.pointer (some r_1), Sl.v all_2] w48 [B_3, B_38] (fun v w340 => ∃ (r_338 : Str), v = .string (Bs r_338) ∧
∀ (w358 : World), Chg [B_3, B_38] w340 w358 →
R (.agg #[.int .i64 r_14, .int .i64 (IntKind.i64.wrap r_27), .int .i64 0, .int .i64 0, .int .i64 0, .string (Bs ([] : Str)), .string (Bs r_338)]) w358)) ∧
((¬ (r_14 = 6)) →
∀ (w368 : World) (B_38 : Nat), New w29 B_38 w368 → Chg [B_3] w29 w368 →
R (.agg #[.int .i64 r_14, .int .i64 (IntKind.i64.wrap r_27), .int .i64 0, .int .i64 0, .int .i64 0, .string (Bs ([] : Str)), .string (Bs ([] : Str))]) w368)))))))
set_option maxHeartbeats 1000000 in
set_option maxRecDepth 10000 in
theorem codec_reader_op.ok (r_1 : Addr) (all_2 : Sl) {R : Value → World → Prop} {w : World} (ht0 : codec_reader_op.vc r_1 all_2 R w) : Calls Try.prog 36 #[.pointer (some r_1), Sl.v all_2] w (Ret R) := by
  refine enter [.pointer (some r_1), Sl.v all_2] Try.func36 rfl Try.ntmps36 rfl ?_
  intro a0 hA0
  unfold codec_reader_op.vc at ht0
  refine wp_seq ?_
  refine wp_region_lit ?_
  refine sq (opk_new (fun B => .pointer (some ⟨B, 0, none⟩)) hA0 rfl (r_alloc (cs := [.int .i64 0, .int .i64 0, .int .i64 0, .int .i64 0, .int .i64 0, .string (Bs ([] : Str)), .string (Bs ([] : Str))]) ti_42 rfl) fun a5 w4 B_3 hE6 hN7 hB8 hA5 _ => ?_)
  have hN9 : New w B_3 w4 := hN7
  have hC10 : Chg [] w w4 := hE6
  refine sq_end ?_
  have hA11 := hA5.keep [(0, .pointer (some r_1)), (1, Sl.v all_2), (4, .pointer (some (⟨B_3, 0, none⟩ : Addr)))] ⟨rfl, rfl, rfl, trivial⟩
  refine then_normal ?_
  refine wp_seq ?_
  refine wp_region_lit ?_
  refine sq (opk_val hA11 rfl (r_move (hA11.get rfl)) fun a12 hA12 _ => ?_)
  have ht13 := ht0 w4 B_3 hN9  hC10
  refine sq (opk_call hA12 rfl (r_call (args := #[.pointer (some r_1)]) Try.func44 (by decide) rfl (map_arr (ml_cons (hA12.get rfl) ml_nil)) rfl) ht13 fun a15 v21 w16 hA15 _ hn18 hz19 hK20 => ?_)
  obtain ⟨r_14, rfl, ht17⟩ := hK20
  have hB22 := hB8.kept hn18 (.head _)
  obtain ⟨hS24, ht25⟩ := ht17
  refine sq (opk_val hA15 rfl (r_convI (hA15.get rfl) rfl Try.underlying3 hS24) fun a23 hA23 _ => ?_)
  refine sq (opk_val hA23 rfl (r_move (hA23.get rfl)) fun a26 hA26 _ => ?_)
  refine sq (opk_call hA26 rfl (r_call (args := #[.pointer (some r_1)]) Try.func34 (by decide) rfl (map_arr (ml_cons (hA26.get rfl) ml_nil)) rfl) ht25 fun a28 v34 w29 hA28 _ hn31 hz32 hK33 => ?_)
  obtain ⟨r_27, rfl, ht30⟩ := hK33
  have hB35 := hB22.kept hn31 (.head _)
  refine sq (opk_val hA28 rfl (r_conv (hA28.get rfl) rfl Try.underlying3) fun a36 hA36 _ => ?_)
  refine sq (opk_val hA36 rfl (r_build (vs := #[(0, .int .i64 r_14), (1, .int .i64 (IntKind.i64.wrap r_27))]) (cells := #[.int .i64 r_14, .int .i64 (IntKind.i64.wrap r_27), .int .i64 0, .int .i64 0, .int .i64 0, .string (Bs ([] : Str)), .string (Bs ([] : Str))]) (map_arr2 (ml2_cons (hA36.get rfl) (ml2_cons (hA36.get rfl) (ml2_nil)))) ti_42 Try.underlying42 pl_42 (by kernel_rfl)) fun a37 hA37 _ => ?_)
  refine sq (opk_new (fun B => .pointer (some ⟨B, 0, none⟩)) hA37 rfl (r_alloc (cs := [.int .i64 0, .int .i64 0, .int .i64 0, .int .i64 0, .int .i64 0, .string (Bs ([] : Str)), .string (Bs ([] : Str))]) ti_42 rfl) fun a40 w39 B_38 hE41 hN42 hB43 hA40 _ => ?_)
  have hne44 : B_3 ≠ B_38 := Nat.ne_of_lt (Nat.lt_of_lt_of_le hB35.lt hN42.ge)
  have hN45 : New w29 B_38 w39 := hN42
  have hB46 := hB35.ext hE41
  have hC47 : Chg [] w29 w39 := hE41
  refine sq (opk_store hA40 hB43 (r_store (vs := [.int .i64 r_14, .int .i64 (IntKind.i64.wrap r_27), .int .i64 0, .int .i64 0, .int .i64 0, .string (Bs ([] : Str)), .string (Bs ([] : Str))]) (hA40.get rfl) (hA40.get rfl) rfl ti_42 hB43 rfl (ones_all [.int .i64 r_14, .int .i64 (IntKind.i64.wrap r_27), .int .i64 0, .int .i64 0, .int .i64 0, .string (Bs ([] : Str)), .string (Bs ([] : Str))] rfl)) fun a49 w48 hS50 hB51 hA49 => ?_)
  have hB52 : Box w48 B_38 42 [.int .i64 r_14, .int .i64 (IntKind.i64.wrap r_27), .int .i64 0, .int .i64 0, .int .i64 0, .string (Bs ([] : Str)), .string (Bs ([] : Str))] := hB51
  have hB53 := hB46.keep hS50 (by simpa using hne44)
  have hC54 := hC47.storeNew hN45 hS50
  have hN55 := hN45.up hS50.size
  refine sq_end ?_
  have hA56 := hA49.keep [(0, .pointer (some r_1)), (1, Sl.v all_2), (4, .pointer (some (⟨B_3, 0, none⟩ : Addr))), (5, .pointer (some (⟨B_38, 0, none⟩ : Addr)))] ⟨rfl, rfl, rfl, rfl, trivial⟩
  refine then_normal ?_
  refine wp_seq ?_
  refine wp_seq ?_
  refine wp_region_lit ?_
  refine sq (opk_val hA56 rfl (r_fieldAddr (hA56.get rfl) Try.underlying42 rfl ti_3 (by decide)) fun a57 hA57 _ => ?_)
  refine sq (opk_val hA57 rfl (r_load1 Try.underlying3 rfl (hA57.get rfl) (hB52.cell 0 _ rfl)) fun a58 hA58 _ => ?_)
  refine sq_end ?_
  have hA59 := hA58.keep [(0, .pointer (some r_1)), (1, Sl.v all_2), (4, .pointer (some (⟨B_3, 0, none⟩ : Addr))), (5, .pointer (some (⟨B_38, 0, none⟩ : Addr))), (14, .int .i64 r_14)] ⟨rfl, rfl, rfl, rfl, rfl, trivial⟩
  refine then_normal ?_
  refine wp_block ?_
  refine wp_seq ?_
  refine wp_region_lit ?_
  refine sq (opk_val hA59 rfl (r_eql (hA59.get rfl) rfl) fun a60 hA60 _ => ?_)
  refine sq (opk_val hA60 rfl (r_assign (hA60.get rfl)) fun a61 hA61 _ => ?_)
  refine sq_end ?_
  have hA62 := hA61.keep [(0, .pointer (some r_1)), (1, Sl.v all_2), (4, .pointer (some (⟨B_3, 0, none⟩ : Addr))), (5, .pointer (some (⟨B_38, 0, none⟩ : Addr))), (14, .int .i64 r_14), (15, .bool (decide (r_14 = 1)))] ⟨rfl, rfl, rfl, rfl, rfl, rfl, trivial⟩
  refine then_normal ?_
  refine wp_cond_split (hA62.get rfl) (fun hc => ?_) (fun hc => ?_)
  · have ht63 := ht30.1 (of_decide_eq_true hc)
    clear hc
    refine wp_seq ?_
    refine wp_region_lit ?_
    refine sq (opk_val hA62 rfl (r_move (hA62.get rfl)) fun a65 hA65 _ => ?_)
    have ht66 := ht63 w48 B_38 hN55  hC54
    refine sq (opk_call hA65 rfl (r_call (args := #[.pointer (some r_1)]) Try.func34 (by decide) rfl (map_arr (ml_cons (hA65.get rfl) ml_nil)) rfl) ht66 fun a68 v74 w69 hA68 _ hn71 hz72 hK73 => ?_)
    obtain ⟨r_67, rfl, ht70⟩ := hK73
    have hB75 := hB53.kept hn71 (.head _)
    have hB76 := hB52.kept hn71 (.tail _ (.head _))
    refine sq (opk_val hA68 rfl (r_conv (hA68.get rfl) rfl Try.underlying3) fun a77 hA77 _ => ?_)
    refine sq (opk_val hA77 rfl (r_move (hA77.get rfl)) fun a78 hA78 _ => ?_)
    refine sq (opk_call hA78 rfl (r_call (args := #[.pointer (some r_1)]) Try.func34 (by decide) rfl (map_arr (ml_cons (hA78.get rfl) ml_nil)) rfl) ht70 fun a80 v86 w81 hA80 _ hn83 hz84 hK85 => ?_)
    obtain ⟨r_79, rfl, ht82⟩ := hK85
    have hB87 := hB75.kept hn83 (.head _)
    have hB88 := hB76.kept hn83 (.tail _ (.head _))
    refine sq (opk_val hA80 rfl (r_conv (hA80.get rfl) rfl Try.underlying3) fun a89 hA89 _ => ?_)
    refine sq (opk_val hA89 rfl (r_move (hA89.get rfl)) fun a90 hA90 _ => ?_)
    refine sq (opk_call hA90 rfl (r_call (args := #[.pointer (some r_1)]) Try.func34 (by decide) rfl (map_arr (ml_cons (hA90.get rfl) ml_nil)) rfl) ht82 fun a92 v98 w93 hA92 _ hn95 hz96 hK97 => ?_)
    obtain ⟨r_91, rfl, ht94⟩ := hK97
    have hB99 := hB87.kept hn95 (.head _)
    have hB100 := hB88.kept hn95 (.tail _ (.head _))
    refine sq (opk_val hA92 rfl (r_conv (hA92.get rfl) rfl Try.underlying3) fun a101 hA101 _ => ?_)
    refine sq (opk_val hA101 rfl (r_fieldAddr (hA101.get rfl) Try.underlying42 rfl ti_3 (by decide)) fun a102 hA102 _ => ?_)
    refine sq (opk_store hA102 hB100 (r_store (vs := [.int .i64 (IntKind.i64.wrap r_67)]) (hA102.get rfl) (hA102.get rfl) rfl ti_3 hB100 rfl (ones_all [.int .i64 (IntKind.i64.wrap r_67)] rfl)) fun a104 w103 hS105 hB106 hA104 => ?_)
    have hB107 : Box w103 B_38 42 [.int .i64 r_14, .int .i64 (IntKind.i64.wrap r_27), .int .i64 (IntKind.i64.wrap r_67), .int .i64 0, .int .i64 0, .string (Bs ([] : Str)), .string (Bs ([] : Str))] := hB106
    have hB108 := hB99.keep hS105 (by simpa using hne44)
    have hC109 : Chg [B_38] w93 w103 := hS105
    refine sq (opk_val hA104 rfl (r_fieldAddr (hA104.get rfl) Try.underlying42 rfl ti_3 (by decide)) fun a110 hA110 _ => ?_)
    refine sq (opk_store hA110 hB107 (r_store (vs := [.int .i64 (IntKind.i64.wrap r_79)]) (hA110.get rfl) (hA110.get rfl) rfl ti_3 hB107 rfl (ones_all [.int .i64 (IntKind.i64.wrap r_79)] rfl)) fun a112 w111 hS113 hB114 hA112 => ?_)
    have hB115 : Box w111 B_38 42 [.int .i64 r_14, .int .i64 (IntKind.i64.wrap r_27), .int .i64 (IntKind.i64.wrap r_67), .int .i64 (IntKind.i64.wrap r_79), .int .i64 0, .string (Bs ([] : Str)), .string (Bs ([] : Str))] := hB114
    have hB116 := hB108.keep hS113 (by simpa using hne44)
    have hC117 := hC109.storeIn (by simp) hS113
    refine sq (opk_val hA112 rfl (r_fieldAddr (hA112.get rfl) Try.underlying42 rfl ti_3 (by decide)) fun a118 hA118 _ => ?_)
    refine sq (opk_store hA118 hB115 (r_store (vs := [.int .i64 (IntKind.i64.wrap r_91)]) (hA118.get rfl) (hA118.get rfl) rfl ti_3 hB115 rfl (ones_all [.int .i64 (IntKind.i64.wrap r_91)] rfl)) fun a120 w119 hS121 hB122 hA120 => ?_)
    have hB123 : Box w119 B_38 42 [.int .i64 r_14, .int .i64 (IntKind.i64.wrap r_27), .int .i64 (IntKind.i64.wrap r_67), .int .i64 (IntKind.i64.wrap r_79), .int .i64 (IntKind.i64.wrap r_91), .string (Bs ([] : Str)), .string (Bs ([] : Str))] := hB122
    have hB124 := hB116.keep hS121 (by simpa using hne44)
    have hC125 := hC117.storeIn (by simp) hS121
    refine sq_end ?_
    have hA126 := hA120.keep [(0, .pointer (some r_1)), (1, Sl.v all_2), (4, .pointer (some (⟨B_3, 0, none⟩ : Addr))), (5, .pointer (some (⟨B_38, 0, none⟩ : Addr)))] ⟨rfl, rfl, rfl, rfl, trivial⟩
    refine then_normal ?_
    refine wp_region_lit ?_
    refine sq (opk_val hA126 rfl (r_move (hA126.get rfl)) fun a127 hA127 _ => ?_)
    refine sq (opk_val hA127 rfl (r_move (hA127.get rfl)) fun a128 hA128 _ => ?_)
    have ht129 := ht94 w119    hC125
    refine sq (opk_call hA128 rfl (r_call (args := #[.pointer (some r_1), Sl.v all_2]) Try.func48 (by decide) rfl (map_arr (ml_cons (hA128.get rfl) (ml_cons (hA128.get rfl) ml_nil))) rfl) ht129 fun a131 v137 w132 hA131 _ hn134 hz135 hK136 => ?_)
    obtain ⟨r_130, rfl, ht133⟩ := hK136
    have hB138 := hB124.kept hn134 (.head _)
    have hB139 := hB123.kept hn134 (.tail _ (.head _))
    refine sq (opk_val hA131 rfl (r_move (hA131.get rfl)) fun a140 hA140 _ => ?_)
    refine sq (opk_val hA140 rfl (r_move (hA140.get rfl)) fun a141 hA141 _ => ?_)
    refine sq (opk_call hA141 rfl (r_call (args := #[.pointer (some r_1), Sl.v all_2]) Try.func48 (by decide) rfl (map_arr (ml_cons (hA141.get rfl) (ml_cons (hA141.get rfl) ml_nil))) rfl) ht133 fun a143 v149 w144 hA143 _ hn146 hz147 hK148 => ?_)
    obtain ⟨r_142, rfl, ht145⟩ := hK148
    have hB150 := hB138.kept hn146 (.head _)
    have hB151 := hB139.kept hn146 (.tail _ (.head _))
    refine sq (opk_val hA143 rfl (r_fieldAddr (hA143.get rfl) Try.underlying42 rfl ti_9 (by decide)) fun a152 hA152 _ => ?_)
    refine sq (opk_store hA152 hB151 (r_store (vs := [.string (Bs r_130)]) (hA152.get rfl) (hA152.get rfl) rfl ti_9 hB151 rfl (ones_all [.string (Bs r_130)] rfl)) fun a154 w153 hS155 hB156 hA154 => ?_)
    have hB157 : Box w153 B_38 42 [.int .i64 r_14, .int .i64 (IntKind.i64.wrap r_27), .int .i64 (IntKind.i64.wrap r_67), .int .i64 (IntKind.i64.wrap r_79), .int .i64 (IntKind.i64.wrap r_91), .string (Bs r_130), .string (Bs ([] : Str))] := hB156
    have hB158 := hB150.keep hS155 (by simpa using hne44)
    have hC159 : Chg [B_38] w144 w153 := hS155
    refine sq (opk_val hA154 rfl (r_fieldAddr (hA154.get rfl) Try.underlying42 rfl ti_9 (by decide)) fun a160 hA160 _ => ?_)
    refine sq (opk_store hA160 hB157 (r_store (vs := [.string (Bs r_142)]) (hA160.get rfl) (hA160.get rfl) rfl ti_9 hB157 rfl (ones_all [.string (Bs r_142)] rfl)) fun a162 w161 hS163 hB164 hA162 => ?_)
    have hB165 : Box w161 B_38 42 [.int .i64 r_14, .int .i64 (IntKind.i64.wrap r_27), .int .i64 (IntKind.i64.wrap r_67), .int .i64 (IntKind.i64.wrap r_79), .int .i64 (IntKind.i64.wrap r_91), .string (Bs r_130), .string (Bs r_142)] := hB164
    have hB166 := hB158.keep hS163 (by simpa using hne44)
    have hC167 := hC159.storeIn (by simp) hS163
    refine sq_end ?_
    have hA168 := hA162.keep [(4, .pointer (some (⟨B_3, 0, none⟩ : Addr))), (5, .pointer (some (⟨B_38, 0, none⟩ : Addr)))] ⟨rfl, rfl, trivial⟩
    refine block_normal ?_
    refine then_normal ?_
    refine wp_seq ?_
    refine wp_region_lit ?_
    refine sq (opk_val hA168 rfl (r_loadN (cs := [.int .i64 r_14, .int .i64 (IntKind.i64.wrap r_27), .int .i64 (IntKind.i64.wrap r_67), .int .i64 (IntKind.i64.wrap r_79), .int .i64 (IntKind.i64.wrap r_91), .string (Bs r_130), .string (Bs r_142)]) Try.underlying42 rfl ti_42 (hA168.get rfl) (hB165.part 0 _ rfl)) fun a169 hA169 _ => ?_)
    refine sq (opk_store hA169 hB166 (r_store (vs := [.int .i64 r_14, .int .i64 (IntKind.i64.wrap r_27), .int .i64 (IntKind.i64.wrap r_67), .int .i64 (IntKind.i64.wrap r_79), .int .i64 (IntKind.i64.wrap r_91), .string (Bs r_130), .string (Bs r_142)]) (hA169.get rfl) (hA169.get rfl) rfl ti_42 hB166 rfl (ones_all [.int .i64 r_14, .int .i64 (IntKind.i64.wrap r_27), .int .i64 (IntKind.i64.wrap r_67), .int .i64 (IntKind.i64.wrap r_79), .int .i64 (IntKind.i64.wrap r_91), .string (Bs r_130), .string (Bs r_142)] rfl)) fun a171 w170 hS172 hB173 hA171 => ?_)
    have hB174 : Box w170 B_3 42 [.int .i64 r_14, .int .i64 (IntKind.i64.wrap r_27), .int .i64 (IntKind.i64.wrap r_67), .int .i64 (IntKind.i64.wrap r_79), .int .i64 (IntKind.i64.wrap r_91), .string (Bs r_130), .string (Bs r_142)] := hB173
    have hB175 := hB165.keep hS172 (by simpa using hne44.symm)
    have hC176 := hC167.storeOld hS172
    refine sq_end ?_
    have hA177 := hA171.keep [(4, .pointer (some (⟨B_3, 0, none⟩ : Addr)))] ⟨rfl, trivial⟩
    refine then_normal ?_
    refine wp_ret ?_
    have ht178 := ht145 w170    hC176
    exact res_all (vs := [.agg #[.int .i64 r_14, .int .i64 (IntKind.i64.wrap r_27), .int .i64 (IntKind.i64.wrap r_67), .int .i64 (IntKind.i64.wrap r_79), .int .i64 (IntKind.i64.wrap r_91), .string (Bs r_130), .string (Bs r_142)]]) rfl hA177 ⟨res_of_cell hA177 rfl hB174 Try.underlying42 rfl ti_42, trivial⟩ ht178
  · have ht64 := ht30.2 (of_decide_eq_false hc)
    clear hc
    refine wp_seq ?_
    refine wp_region_lit ?_
    refine sq (opk_val hA62 rfl (r_eql (hA62.get rfl) rfl) fun a179 hA179 _ => ?_)
    refine sq (opk_val hA179 rfl (r_assign (hA179.get rfl)) fun a180 hA180 _ => ?_)
    refine sq_end ?_
    have hA181 := hA180.keep [(0, .pointer (some r_1)), (1, Sl.v all_2), (4, .pointer (some (⟨B_3, 0, none⟩ : Addr))), (5, .pointer (some (⟨B_38, 0, none⟩ : Addr))), (14, .int .i64 r_14), (37, .bool (decide (r_14 = 3)))] ⟨rfl, rfl, rfl, rfl, rfl, rfl, trivial⟩
    refine then_normal ?_
    refine wp_cond_split (hA181.get rfl) (fun hc => ?_) (fun hc => ?_)
    · have ht182 := ht64.1 (of_decide_eq_true hc)
      clear hc
      refine wp_region_lit ?_
      refine sq (opk_val hA181 rfl (r_move (hA181.get rfl)) fun a184 hA184 _ => ?_)
      have ht185 := ht182 w48 B_38 hN55  hC54
      refine sq (opk_call hA184 rfl (r_call (args := #[.pointer (some r_1)]) Try.func34 (by decide) rfl (map_arr (ml_cons (hA184.get rfl) ml_nil)) rfl) ht185 fun a187 v193 w188 hA187 _ hn190 hz191 hK192 => ?_)
      obtain ⟨r_186, rfl, ht189⟩ := hK192
      have hB194 := hB53.kept hn190 (.head _)
      have hB195 := hB52.kept hn190 (.tail _ (.head _))
      refine sq (opk_val hA187 rfl (r_conv (hA187.get rfl) rfl Try.underlying3) fun a196 hA196 _ => ?_)
      refine sq (opk_val hA196 rfl (r_move (hA196.get rfl)) fun a197 hA197 _ => ?_)
      refine sq (opk_call hA197 rfl (r_call (args := #[.pointer (some r_1)]) Try.func34 (by decide) rfl (map_arr (ml_cons (hA197.get rfl) ml_nil)) rfl) ht189 fun a199 v205 w200 hA199 _ hn202 hz203 hK204 => ?_)
      obtain ⟨r_198, rfl, ht201⟩ := hK204
      have hB206 := hB194.kept hn202 (.head _)
      have hB207 := hB195.kept hn202 (.tail _ (.head _))
      refine sq (opk_val hA199 rfl (r_conv (hA199.get rfl) rfl Try.underlying3) fun a208 hA208 _ => ?_)
      refine sq (opk_val hA208 rfl (r_fieldAddr (hA208.get rfl) Try.underlying42 rfl ti_3 (by decide)) fun a209 hA209 _ => ?_)
      refine sq (opk_store hA209 hB207 (r_store (vs := [.int .i64 (IntKind.i64.wrap r_186)]) (hA209.get rfl) (hA209.get rfl) rfl ti_3 hB207 rfl (ones_all [.int .i64 (IntKind.i64.wrap r_186)] rfl)) fun a211 w210 hS212 hB213 hA211 => ?_)
      have hB214 : Box w210 B_38 42 [.int .i64 r_14, .int .i64 (IntKind.i64.wrap r_27), .int .i64 (IntKind.i64.wrap r_186), .int .i64 0, .int .i64 0, .string (Bs ([] : Str)), .string (Bs ([] : Str))] := hB213
      have hB215 := hB206.keep hS212 (by simpa using hne44)
      have hC216 : Chg [B_38] w200 w210 := hS212
      refine sq (opk_val hA211 rfl (r_fieldAddr (hA211.get rfl) Try.underlying42 rfl ti_3 (by decide)) fun a217 hA217 _ => ?_)
      refine sq (opk_store hA217 hB214 (r_store (vs := [.int .i64 (IntKind.i64.wrap r_198)]) (hA217.get rfl) (hA217.get rfl) rfl ti_3 hB214 rfl (ones_all [.int .i64 (IntKind.i64.wrap r_198)] rfl)) fun a219 w218 hS220 hB221 hA219 => ?_)
      have hB222 : Box w218 B_38 42 [.int .i64 r_14, .int .i64 (IntKind.i64.wrap r_27), .int .i64 (IntKind.i64.wrap r_186), .int .i64 (IntKind.i64.wrap r_198), .int .i64 0, .string (Bs ([] : Str)), .string (Bs ([] : Str))] := hB221
      have hB223 := hB215.keep hS220 (by simpa using hne44)
      have hC224 := hC216.storeIn (by simp) hS220
      refine sq_end ?_
      have hA225 := hA219.keep [(4, .pointer (some (⟨B_3, 0, none⟩ : Addr))), (5, .pointer (some (⟨B_38, 0, none⟩ : Addr)))] ⟨rfl, rfl, trivial⟩
      refine block_normal ?_
      refine then_normal ?_
      refine wp_seq ?_
      refine wp_region_lit ?_
      refine sq (opk_val hA225 rfl (r_loadN (cs := [.int .i64 r_14, .int .i64 (IntKind.i64.wrap r_27), .int .i64 (IntKind.i64.wrap r_186), .int .i64 (IntKind.i64.wrap r_198), .int .i64 0, .string (Bs ([] : Str)), .string (Bs ([] : Str))]) Try.underlying42 rfl ti_42 (hA225.get rfl) (hB222.part 0 _ rfl)) fun a226 hA226 _ => ?_)
      refine sq (opk_store hA226 hB223 (r_store (vs := [.int .i64 r_14, .int .i64 (IntKind.i64.wrap r_27), .int .i64 (IntKind.i64.wrap r_186), .int .i64 (IntKind.i64.wrap r_198), .int .i64 0, .string (Bs ([] : Str)), .string (Bs ([] : Str))]) (hA226.get rfl) (hA226.get rfl) rfl ti_42 hB223 rfl (ones_all [.int .i64 r_14, .int .i64 (IntKind.i64.wrap r_27), .int .i64 (IntKind.i64.wrap r_186), .int .i64 (IntKind.i64.wrap r_198), .int .i64 0, .string (Bs ([] : Str)), .string (Bs ([] : Str))] rfl)) fun a228 w227 hS229 hB230 hA228 => ?_)
      have hB231 : Box w227 B_3 42 [.int .i64 r_14, .int .i64 (IntKind.i64.wrap r_27), .int .i64 (IntKind.i64.wrap r_186), .int .i64 (IntKind.i64.wrap r_198), .int .i64 0, .string (Bs ([] : Str)), .string (Bs ([] : Str))] := hB230
      have hB232 := hB222.keep hS229 (by simpa using hne44.symm)
      have hC233 := hC224.storeOld hS229
      refine sq_end ?_
      have hA234 := hA228.keep [(4, .pointer (some (⟨B_3, 0, none⟩ : Addr)))] ⟨rfl, trivial⟩
      refine then_normal ?_
      refine wp_ret ?_
      have ht235 := ht201 w227    hC233
      exact res_all (vs := [.agg #[.int .i64 r_14, .int .i64 (IntKind.i64.wrap r_27), .int .i64 (IntKind.i64.wrap r_186), .int .i64 (IntKind.i64.wrap r_198), .int .i64 0, .string (Bs ([] : Str)), .string (Bs ([] : Str))]]) rfl hA234 ⟨res_of_cell hA234 rfl hB231 Try.underlying42 rfl ti_42, trivial⟩ ht235
    · have ht183 := ht64.2 (of_decide_eq_false hc)
      clear hc
      refine wp_seq ?_
      refine wp_region_lit ?_
      refine sq (opk_val hA181 rfl (r_eql (hA181.get rfl) rfl) fun a236 hA236 _ => ?_)
      refine sq (opk_val hA236 rfl (r_assign (hA236.get rfl)) fun a237 hA237 _ => ?_)
      refine sq_end ?_
      have hA238 := hA237.keep [(0, .pointer (some r_1)), (1, Sl.v all_2), (4, .pointer (some (⟨B_3, 0, none⟩ : Addr))), (5, .pointer (some (⟨B_38, 0, none⟩ : Addr))), (14, .int .i64 r_14), (47, .bool (decide (r_14 = 4)))] ⟨rfl, rfl, rfl, rfl, rfl, rfl, trivial⟩
      refine then_normal ?_
      refine wp_cond_split (hA238.get rfl) (fun hc => ?_) (fun hc => ?_)
      · have ht239 := ht183.1 (of_decide_eq_true hc)
        clear hc
        refine wp_region_lit ?_
        refine sq (opk_val hA238 rfl (r_move (hA238.get rfl)) fun a241 hA241 _ => ?_)
        refine sq (opk_val hA241 rfl (r_move (hA241.get rfl)) fun a242 hA242 _ => ?_)
        have ht243 := ht239 w48 B_38 hN55  hC54
        refine sq (opk_call hA242 rfl (r_call (args := #[.pointer (some r_1), Sl.v all_2]) Try.func48 (by decide) rfl (map_arr (ml_cons (hA242.get rfl) (ml_cons (hA242.get rfl) ml_nil))) rfl) ht243 fun a245 v251 w246 hA245 _ hn248 hz249 hK250 => ?_)
        obtain ⟨r_244, rfl, ht247⟩ := hK250
        have hB252 := hB53.kept hn248 (.head _)
        have hB253 := hB52.kept hn248 (.tail _ (.head _))
        refine sq (opk_val hA245 rfl (r_move (hA245.get rfl)) fun a254 hA254 _ => ?_)
        refine sq (opk_val hA254 rfl (r_move (hA254.get rfl)) fun a255 hA255 _ => ?_)
        refine sq (opk_call hA255 rfl (r_call (args := #[.pointer (some r_1), Sl.v all_2]) Try.func48 (by decide) rfl (map_arr (ml_cons (hA255.get rfl) (ml_cons (hA255.get rfl) ml_nil))) rfl) ht247 fun a257 v263 w258 hA257 _ hn260 hz261 hK262 => ?_)
        obtain ⟨r_256, rfl, ht259⟩ := hK262
        have hB264 := hB252.kept hn260 (.head _)
        have hB265 := hB253.kept hn260 (.tail _ (.head _))
        refine sq (opk_val hA257 rfl (r_fieldAddr (hA257.get rfl) Try.underlying42 rfl ti_9 (by decide)) fun a266 hA266 _ => ?_)
        refine sq (opk_store hA266 hB265 (r_store (vs := [.string (Bs r_244)]) (hA266.get rfl) (hA266.get rfl) rfl ti_9 hB265 rfl (ones_all [.string (Bs r_244)] rfl)) fun a268 w267 hS269 hB270 hA268 => ?_)
        have hB271 : Box w267 B_38 42 [.int .i64 r_14, .int .i64 (IntKind.i64.wrap r_27), .int .i64 0, .int .i64 0, .int .i64 0, .string (Bs r_244), .string (Bs ([] : Str))] := hB270
        have hB272 := hB264.keep hS269 (by simpa using hne44)
        have hC273 : Chg [B_38] w258 w267 := hS269
        refine sq (opk_val hA268 rfl (r_fieldAddr (hA268.get rfl) Try.underlying42 rfl ti_9 (by decide)) fun a274 hA274 _ => ?_)
        refine sq (opk_store hA274 hB271 (r_store (vs := [.string (Bs r_256)]) (hA274.get rfl) (hA274.get rfl) rfl ti_9 hB271 rfl (ones_all [.string (Bs r_256)] rfl)) fun a276 w275 hS277 hB278 hA276 => ?_)
        have hB279 : Box w275 B_38 42 [.int .i64 r_14, .int .i64 (IntKind.i64.wrap r_27), .int .i64 0, .int .i64 0, .int .i64 0, .string (Bs r_244), .string (Bs r_256)] := hB278
        have hB280 := hB272.keep hS277 (by simpa using hne44)
        have hC281 := hC273.storeIn (by simp) hS277
        refine sq_end ?_
        have hA282 := hA276.keep [(4, .pointer (some (⟨B_3, 0, none⟩ : Addr))), (5, .pointer (some (⟨B_38, 0, none⟩ : Addr)))] ⟨rfl, rfl, trivial⟩
        refine block_normal ?_
        refine then_normal ?_
        refine wp_seq ?_
        refine wp_region_lit ?_
        refine sq (opk_val hA282 rfl (r_loadN (cs := [.int .i64 r_14, .int .i64 (IntKind.i64.wrap r_27), .int .i64 0, .int .i64 0, .int .i64 0, .string (Bs r_244), .string (Bs r_256)]) Try.underlying42 rfl ti_42 (hA282.get rfl) (hB279.part 0 _ rfl)) fun a283 hA283 _ => ?_)
        refine sq (opk_store hA283 hB280 (r_store (vs := [.int .i64 r_14, .int .i64 (IntKind.i64.wrap r_27), .int .i64 0, .int .i64 0, .int .i64 0, .string (Bs r_244), .string (Bs r_256)]) (hA283.get rfl) (hA283.get rfl) rfl ti_42 hB280 rfl (ones_all [.int .i64 r_14, .int .i64 (IntKind.i64.wrap r_27), .int .i64 0, .int .i64 0, .int .i64 0, .string (Bs r_244), .string (Bs r_256)] rfl)) fun a285 w284 hS286 hB287 hA285 => ?_)
        have hB288 : Box w284 B_3 42 [.int .i64 r_14, .int .i64 (IntKind.i64.wrap r_27), .int .i64 0, .int .i64 0, .int .i64 0, .string (Bs r_244), .string (Bs r_256)] := hB287
        have hB289 := hB279.keep hS286 (by simpa using hne44.symm)
        have hC290 := hC281.storeOld hS286
        refine sq_end ?_
        have hA291 := hA285.keep [(4, .pointer (some (⟨B_3, 0, none⟩ : Addr)))] ⟨rfl, trivial⟩
        refine then_normal ?_
        refine wp_ret ?_
        have ht292 := ht259 w284    hC290
        exact res_all (vs := [.agg #[.int .i64 r_14, .int .i64 (IntKind.i64.wrap r_27), .int .i64 0, .int .i64 0, .int .i64 0, .string (Bs r_244), .string (Bs r_256)]]) rfl hA291 ⟨res_of_cell hA291 rfl hB288 Try.underlying42 rfl ti_42, trivial⟩ ht292
      · have ht240 := ht183.2 (of_decide_eq_false hc)
        clear hc
        refine wp_seq ?_
        refine wp_region_lit ?_
        refine sq (opk_val hA238 rfl (r_eql (hA238.get rfl) rfl) fun a293 hA293 _ => ?_)
        refine sq (opk_val hA293 rfl (r_assign (hA293.get rfl)) fun a294 hA294 _ => ?_)
        refine sq_end ?_
        have hA295 := hA294.keep [(0, .pointer (some r_1)), (1, Sl.v all_2), (4, .pointer (some (⟨B_3, 0, none⟩ : Addr))), (5, .pointer (some (⟨B_38, 0, none⟩ : Addr))), (14, .int .i64 r_14), (57, .bool (decide (r_14 = 5)))] ⟨rfl, rfl, rfl, rfl, rfl, rfl, trivial⟩
        refine then_normal ?_
        refine wp_cond_split (hA295.get rfl) (fun hc => ?_) (fun hc => ?_)
        · have ht296 := ht240.1 (of_decide_eq_true hc)
          clear hc
          refine wp_region_lit ?_
          refine sq (opk_val hA295 rfl (r_move (hA295.get rfl)) fun a298 hA298 _ => ?_)
          refine sq (opk_val hA298 rfl (r_move (hA298.get rfl)) fun a299 hA299 _ => ?_)
          have ht300 := ht296 w48 B_38 hN55  hC54
          refine sq (opk_call hA299 rfl (r_call (args := #[.pointer (some r_1), Sl.v all_2]) Try.func48 (by decide) rfl (map_arr (ml_cons (hA299.get rfl) (ml_cons (hA299.get rfl) ml_nil))) rfl) ht300 fun a302 v308 w303 hA302 _ hn305 hz306 hK307 => ?_)
          obtain ⟨r_301, rfl, ht304⟩ := hK307
          have hB309 := hB53.kept hn305 (.head _)
          have hB310 := hB52.kept hn305 (.tail _ (.head _))
          refine sq (opk_val hA302 rfl (r_fieldAddr (hA302.get rfl) Try.underlying42 rfl ti_9 (by decide)) fun a311 hA311 _ => ?_)
          refine sq (opk_store hA311 hB310 (r_store (vs := [.string (Bs r_301)]) (hA311.get rfl) (hA311.get rfl) rfl ti_9 hB310 rfl (ones_all [.string (Bs r_301)] rfl)) fun a313 w312 hS314 hB315 hA313 => ?_)
          have hB316 : Box w312 B_38 42 [.int .i64 r_14, .int .i64 (IntKind.i64.wrap r_27), .int .i64 0, .int .i64 0, .int .i64 0, .string (Bs r_301), .string (Bs ([] : Str))] := hB315
          have hB317 := hB309.keep hS314 (by simpa using hne44)
          have hC318 : Chg [B_38] w303 w312 := hS314
          refine sq_end ?_
          have hA319 := hA313.keep [(4, .pointer (some (⟨B_3, 0, none⟩ : Addr))), (5, .pointer (some (⟨B_38, 0, none⟩ : Addr)))] ⟨rfl, rfl, trivial⟩
          refine block_normal ?_
          refine then_normal ?_
          refine wp_seq ?_
          refine wp_region_lit ?_
          refine sq (opk_val hA319 rfl (r_loadN (cs := [.int .i64 r_14, .int .i64 (IntKind.i64.wrap r_27), .int .i64 0, .int .i64 0, .int .i64 0, .string (Bs r_301), .string (Bs ([] : Str))]) Try.underlying42 rfl ti_42 (hA319.get rfl) (hB316.part 0 _ rfl)) fun a320 hA320 _ => ?_)
          refine sq (opk_store hA320 hB317 (r_store (vs := [.int .i64 r_14, .int .i64 (IntKind.i64.wrap r_27), .int .i64 0, .int .i64 0, .int .i64 0, .string (Bs r_301), .string (Bs ([] : Str))]) (hA320.get rfl) (hA320.get rfl) rfl ti_42 hB317 rfl (ones_all [.int .i64 r_14, .int .i64 (IntKind.i64.wrap r_27), .int .i64 0, .int .i64 0, .int .i64 0, .string (Bs r_301), .string (Bs ([] : Str))] rfl)) fun a322 w321 hS323 hB324 hA322 => ?_)
          have hB325 : Box w321 B_3 42 [.int .i64 r_14, .int .i64 (IntKind.i64.wrap r_27), .int .i64 0, .int .i64 0, .int .i64 0, .string (Bs r_301), .string (Bs ([] : Str))] := hB324
          have hB326 := hB316.keep hS323 (by simpa using hne44.symm)
          have hC327 := hC318.storeOld hS323
          refine sq_end ?_
          have hA328 := hA322.keep [(4, .pointer (some (⟨B_3, 0, none⟩ : Addr)))] ⟨rfl, trivial⟩
          refine then_normal ?_
          refine wp_ret ?_
          have ht329 := ht304 w321    hC327
          exact res_all (vs := [.agg #[.int .i64 r_14, .int .i64 (IntKind.i64.wrap r_27), .int .i64 0, .int .i64 0, .int .i64 0, .string (Bs r_301), .string (Bs ([] : Str))]]) rfl hA328 ⟨res_of_cell hA328 rfl hB325 Try.underlying42 rfl ti_42, trivial⟩ ht329
        · have ht297 := ht240.2 (of_decide_eq_false hc)
          clear hc
          refine wp_seq ?_
          refine wp_region_lit ?_
          refine sq (opk_val hA295 rfl (r_eql (hA295.get rfl) rfl) fun a330 hA330 _ => ?_)
          refine sq (opk_val hA330 rfl (r_assign (hA330.get rfl)) fun a331 hA331 _ => ?_)
          refine sq_end ?_
          have hA332 := hA331.keep [(0, .pointer (some r_1)), (1, Sl.v all_2), (4, .pointer (some (⟨B_3, 0, none⟩ : Addr))), (5, .pointer (some (⟨B_38, 0, none⟩ : Addr))), (63, .bool (decide (r_14 = 6)))] ⟨rfl, rfl, rfl, rfl, rfl, trivial⟩
          refine then_normal ?_
          refine wp_cond_split (hA332.get rfl) (fun hc => ?_) (fun hc => ?_)
          · have ht333 := ht297.1 (of_decide_eq_true hc)
            clear hc
            refine wp_region_lit ?_
            refine sq (opk_val hA332 rfl (r_move (hA332.get rfl)) fun a335 hA335 _ => ?_)
            refine sq (opk_val hA335 rfl (r_move (hA335.get rfl)) fun a336 hA336 _ => ?_)
            have ht337 := ht333 w48 B_38 hN55  hC54
            refine sq (opk_call hA336 rfl (r_call (args := #[.pointer (some r_1), Sl.v all_2]) Try.func48 (by decide) rfl (map_arr (ml_cons (hA336.get rfl) (ml_cons (hA336.get rfl) ml_nil))) rfl) ht337 fun a339 v345 w340 hA339 _ hn342 hz343 hK344 => ?_)
            obtain ⟨r_338, rfl, ht341⟩ := hK344
            have hB346 := hB53.kept hn342 (.head _)
            have hB347 := hB52.kept hn342 (.tail _ (.head _))
            refine sq (opk_val hA339 rfl (r_fieldAddr (hA339.get rfl) Try.underlying42 rfl ti_9 (by decide)) fun a348 hA348 _ => ?_)
            refine sq (opk_store hA348 hB347 (r_store (vs := [.string (Bs r_338)]) (hA348.get rfl) (hA348.get rfl) rfl ti_9 hB347 rfl (ones_all [.string (Bs r_338)] rfl)) fun a350 w349 hS351 hB352 hA350 => ?_)
            have hB353 : Box w349 B_38 42 [.int .i64 r_14, .int .i64 (IntKind.i64.wrap r_27), .int .i64 0, .int .i64 0, .int .i64 0, .string (Bs ([] : Str)), .string (Bs r_338)] := hB352
            have hB354 := hB346.keep hS351 (by simpa using hne44)
            have hC355 : Chg [B_38] w340 w349 := hS351
            refine sq_end ?_
            have hA356 := hA350.keep [(4, .pointer (some (⟨B_3, 0, none⟩ : Addr))), (5, .pointer (some (⟨B_38, 0, none⟩ : Addr)))] ⟨rfl, rfl, trivial⟩
            refine block_normal ?_
            refine then_normal ?_
            refine wp_seq ?_
            refine wp_region_lit ?_
            refine sq (opk_val hA356 rfl (r_loadN (cs := [.int .i64 r_14, .int .i64 (IntKind.i64.wrap r_27), .int .i64 0, .int .i64 0, .int .i64 0, .string (Bs ([] : Str)), .string (Bs r_338)]) Try.underlying42 rfl ti_42 (hA356.get rfl) (hB353.part 0 _ rfl)) fun a357 hA357 _ => ?_)
            refine sq (opk_store hA357 hB354 (r_store (vs := [.int .i64 r_14, .int .i64 (IntKind.i64.wrap r_27), .int .i64 0, .int .i64 0, .int .i64 0, .string (Bs ([] : Str)), .string (Bs r_338)]) (hA357.get rfl) (hA357.get rfl) rfl ti_42 hB354 rfl (ones_all [.int .i64 r_14, .int .i64 (IntKind.i64.wrap r_27), .int .i64 0, .int .i64 0, .int .i64 0, .string (Bs ([] : Str)), .string (Bs r_338)] rfl)) fun a359 w358 hS360 hB361 hA359 => ?_)
            have hB362 : Box w358 B_3 42 [.int .i64 r_14, .int .i64 (IntKind.i64.wrap r_27), .int .i64 0, .int .i64 0, .int .i64 0, .string (Bs ([] : Str)), .string (Bs r_338)] := hB361
            have hB363 := hB353.keep hS360 (by simpa using hne44.symm)
            have hC364 := hC355.storeOld hS360
            refine sq_end ?_
            have hA365 := hA359.keep [(4, .pointer (some (⟨B_3, 0, none⟩ : Addr)))] ⟨rfl, trivial⟩
            refine then_normal ?_
            refine wp_ret ?_
            have ht366 := ht341 w358    hC364
            exact res_all (vs := [.agg #[.int .i64 r_14, .int .i64 (IntKind.i64.wrap r_27), .int .i64 0, .int .i64 0, .int .i64 0, .string (Bs ([] : Str)), .string (Bs r_338)]]) rfl hA365 ⟨res_of_cell hA365 rfl hB362 Try.underlying42 rfl ti_42, trivial⟩ ht366
          · have ht334 := ht297.2 (of_decide_eq_false hc)
            clear hc
            refine wp_skip ?_
            refine block_normal ?_
            refine then_normal ?_
            refine wp_seq ?_
            refine wp_region_lit ?_
            refine sq (opk_val hA332 rfl (r_loadN (cs := [.int .i64 r_14, .int .i64 (IntKind.i64.wrap r_27), .int .i64 0, .int .i64 0, .int .i64 0, .string (Bs ([] : Str)), .string (Bs ([] : Str))]) Try.underlying42 rfl ti_42 (hA332.get rfl) (hB52.part 0 _ rfl)) fun a367 hA367 _ => ?_)
            refine sq (opk_store hA367 hB53 (r_store (vs := [.int .i64 r_14, .int .i64 (IntKind.i64.wrap r_27), .int .i64 0, .int .i64 0, .int .i64 0, .string (Bs ([] : Str)), .string (Bs ([] : Str))]) (hA367.get rfl) (hA367.get rfl) rfl ti_42 hB53 rfl (ones_all [.int .i64 r_14, .int .i64 (IntKind.i64.wrap r_27), .int .i64 0, .int .i64 0, .int .i64 0, .string (Bs ([] : Str)), .string (Bs ([] : Str))] rfl)) fun a369 w368 hS370 hB371 hA369 => ?_)
            have hB372 : Box w368 B_3 42 [.int .i64 r_14, .int .i64 (IntKind.i64.wrap r_27), .int .i64 0, .int .i64 0, .int .i64 0, .string (Bs ([] : Str)), .string (Bs ([] : Str))] := hB371
            have hB373 := hB52.keep hS370 (by simpa using hne44.symm)
            have hC374 := hC54.storeOld hS370
            have hN375 := hN55.up hS370.size
            refine sq_end ?_
            have hA376 := hA369.keep [(4, .pointer (some (⟨B_3, 0, none⟩ : Addr)))] ⟨rfl, trivial⟩
            refine then_normal ?_
            refine wp_ret ?_
            have ht377 := ht334 w368 B_38 hN375  hC374
            exact res_all (vs := [.agg #[.int .i64 r_14, .int .i64 (IntKind.i64.wrap r_27), .int .i64 0, .int .i64 0, .int .i64 0, .string (Bs ([] : Str)), .string (Bs ([] : Str))]]) rfl hA376 ⟨res_of_cell hA376 rfl hB372 Try.underlying42 rfl ti_42, trivial⟩ ht377

/-- The condition of (*topiary/codec.reader).byte. -/
def codec_reader_byte.vc (r_1 : Addr) (R : Value → World → Prop) (w : World) : Prop :=
∀ (w4 : World), Chg [] w w4 →
∃ (x_11 : Bool), (w4.cell? (r_1.add 2) = some (.bool x_11)) ∧
∃ (x_22 : Int), (((x_11 = false)) → w4.cell? (r_1.add 1) = some (.int .i64 x_22)) ∧
∃ (x_32 : Sl), (((x_11 = false)) → w4.cell? (r_1.add 0) = some (Sl.v x_32)) ∧
(((x_11 = true) ∨ ((x_32.n : Int) ≤ x_22)) →
∀ (w43 : World), Chg [] w4 w43 →
∃ (B_62 o_63 : Nat) (T_64 : TypeId) (cs_65 : List Value), (r_1.add 2) = ⟨B_62, o_63, none⟩ ∧ Box w43 B_62 T_64 cs_65 ∧ o_63 + 1 ≤ cs_65.length ∧ (∀ b ∈ [], b ≠ B_62) ∧
(∀ w57 : World, Chg [B_62] w43 w57 → Box w57 B_62 T_64 (putAt cs_65 o_63 [.bool true]) →
R (.int .u8 0) w57)) ∧
(((x_11 = false) ∧ (¬ ((x_32.n : Int) ≤ x_22))) →
∀ (w43 : World), Chg [] w4 w43 →
∃ (x_80 : Int), (w43.cell? (r_1.add 1) = some (.int .i64 x_80)) ∧
(I64 (x_80 + 1)) ∧
∃ (B_92 o_93 : Nat) (T_94 : TypeId) (cs_95 : List Value), (r_1.add 1) = ⟨B_92, o_93, none⟩ ∧ Box w43 B_92 T_94 cs_95 ∧ o_93 + 1 ≤ cs_95.length ∧ (∀ b ∈ [], b ≠ B_92) ∧
(∀ w88 : World, Chg [B_92] w43 w88 → Box w88 B_92 T_94 (putAt cs_95 o_93 [.int .i64 (x_80 + 1)]) →
∀ (w103 : World), Chg [] w88 w103 →
∃ (x_110 : Sl), (w103.cell? (r_1.add 0) = some (Sl.v x_110)) ∧
∃ (x_116 : Int), (w103.cell? (r_1.add 1) = some (.int .i64 x_116)) ∧
(I64 (x_116 - 1)) ∧
∃ p_124 : Addr, (((0 : Int) ≤ x_116 - 1 ∧ x_116 - 1 < (x_110.n : Int)) ∧ x_110.a = some p_124) ∧
∃ (x_128 : Int), (w103.cell? (p_124.add ((x_116 - 1).toNat * 1)) = some (.int .u8 x_128)) ∧
∀ (w133 : World), Chg [] w103 w133 →
R (.int .u8 x_128) w133))
set_option maxHeartbeats 1000000 in
set_option maxRecDepth 10000 in
theorem codec_reader_byte.ok (r_1 : Addr) {R : Value → World → Prop} {w : World} (ht0 : codec_reader_byte.vc r_1 R w) : Calls Try.prog 44 #[.pointer (some r_1)] w (Ret R) := by
  refine enter [.pointer (some r_1)] Try.func44 rfl Try.ntmps44 rfl ?_
  intro a0 hA0
  unfold codec_reader_byte.vc at ht0
  refine wp_seq ?_
  refine wp_region_lit ?_
  refine sq (opk_val hA0 rfl (r_assign rfl) fun a2 hA2 _ => ?_)
  refine sq_end ?_
  have hA3 := hA2.keep [(0, .pointer (some r_1))] ⟨rfl, trivial⟩
  refine then_normal ?_
  refine wp_seq ?_
  refine wp_seq ?_
  refine draw' (by kernel_rfl) fun w4 hE5 => ?_
  have hC6 : Chg [] w w4 := hE5
  have ht7 := ht0 w4    hC6
  obtain ⟨x_11, hx12, ht13⟩ := ht7
  obtain ⟨x_22, hx23, ht24⟩ := ht13
  obtain ⟨x_32, hx33, ht34⟩ := ht24
  refine par (D := [[], [0], [0, 1], [0, 1, 2], [0, 1, 2, 3], [0, 1, 2, 3, 4], [0, 1, 2, 3, 4, 5], [0, 1, 2, 3, 4, 5, 6], [0, 1, 2, 3, 4, 5, 6, 7], [0, 1, 2, 3, 4], [0, 1, 2, 3, 4, 9], [0, 1, 2, 3, 4, 9, 10], [0, 1, 2, 3, 4, 9, 10, 11], [0, 1, 2, 3, 4, 9, 10, 11, 12], [0, 1, 2, 3, 4, 5, 6, 7, 8, 9, 10, 11, 12, 13], [0, 1, 2, 3, 4, 5, 6, 7, 8, 9, 10, 11, 12, 13, 14]]) (S := [0, 1, 2, 3, 4, 5, 6, 7, 8, 9, 10, 11, 12, 13, 14, 15]) (F := []) (V := VL [(0, fun v _ => v = .pointer (some r_1)), (1, fun v _ => v = .pointer (some r_1)), (2, fun v _ => v = .pointer (some (r_1.add 2))), (3, fun v _ => v = .bool x_11), (4, fun v _ => v = .bool x_11), (5, fun v _ => v = cV (true && (x_11 == false)) (.pointer (some r_1))), (6, fun v _ => v = cV (true && (x_11 == false)) (.pointer (some r_1))), (7, fun v _ => v = cV (true && (x_11 == false)) (.pointer (some (r_1.add 1)))), (8, fun v _ => v = cV (true && (x_11 == false)) (.int .i64 x_22)), (9, fun v _ => v = cV (true && (x_11 == false)) (.pointer (some r_1))), (10, fun v _ => v = cV (true && (x_11 == false)) (.pointer (some r_1))), (11, fun v _ => v = cV (true && (x_11 == false)) (.pointer (some (r_1.add 0)))), (12, fun v _ => v = cV (true && (x_11 == false)) (Sl.v x_32)), (13, fun v _ => v = cV (true && (x_11 == false)) (.int .i64 (x_32.n : Int))), (14, fun v _ => v = cV (true && (x_11 == false)) (.bool (decide ((x_32.n : Int) ≤ x_22)))), (15, fun v _ => v = .bool (x_11 || (decide ((x_32.n : Int) ≤ x_22))))]) hA3 (by kernel_rfl) ⟨fun _ _ _ _ h => by first | exact h | (change _ = _ at h; change _ = _; exact h), fun _ _ _ _ h => by first | exact h | (change _ = _ at h; change _ = _; exact h), fun _ _ _ _ h => by first | exact h | (change _ = _ at h; change _ = _; exact h), fun _ _ _ _ h => by first | exact h | (change _ = _ at h; change _ = _; exact h), fun _ _ _ _ h => by first | exact h | (change _ = _ at h; change _ = _; exact h), fun _ _ _ _ h => by first | exact h | (change _ = _ at h; change _ = _; exact h), fun _ _ _ _ h => by first | exact h | (change _ = _ at h; change _ = _; exact h), fun _ _ _ _ h => by first | exact h | (change _ = _ at h; change _ = _; exact h), fun _ _ _ _ h => by first | exact h | (change _ = _ at h; change _ = _; exact h), fun _ _ _ _ h => by first | exact h | (change _ = _ at h; change _ = _; exact h), fun _ _ _ _ h => by first | exact h | (change _ = _ at h; change _ = _; exact h), fun _ _ _ _ h => by first | exact h | (change _ = _ at h; change _ = _; exact h), fun _ _ _ _ h => by first | exact h | (change _ = _ at h; change _ = _; exact h), fun _ _ _ _ h => by first | exact h | (change _ = _ at h; change _ = _; exact h), fun _ _ _ _ h => by first | exact h | (change _ = _ at h; change _ = _; exact h), fun _ _ _ _ h => by first | exact h | (change _ = _ at h; change _ = _; exact h), trivial⟩ ⟨?_, ?_, ?_, ?_, ?_, ?_, ?_, ?_, ?_, ?_, ?_, ?_, ?_, ?_, ?_, ?_, trivial⟩ ?_
  · intro a w hT
    have hAp := hT.ag hA3 [(0, .pointer (some r_1))] ⟨rfl, trivial⟩ (by kernel_rfl)
    exact opk_val hAp rfl (r_move (hAp.get rfl)) fun _ _ e => ⟨_, e, Chg.refl _ _, fun _ => Eq.refl _⟩
  · intro a w hT
    have hAp := hT.ag hA3 [] trivial (by kernel_rfl)
    have e8 : a.tmps.getD 3 undef = .pointer (some r_1) := hT.vals 0 rfl 3 rfl
    have hAp := hAp.add e8
    exact opk_val hAp rfl (r_nilCheck (hAp.get rfl)) fun _ _ e => ⟨_, e, Chg.refl _ _, fun _ => Eq.refl _⟩
  · intro a w hT
    have hAp := hT.ag hA3 [] trivial (by kernel_rfl)
    have e9 : a.tmps.getD 4 undef = .pointer (some r_1) := hT.vals 1 rfl 4 rfl
    have hAp := hAp.add e9
    exact opk_val hAp rfl (r_fieldAddr (hAp.get rfl) Try.underlying63 rfl ti_4 (by decide)) fun _ _ e => ⟨_, e, Chg.refl _ _, fun _ => Eq.refl _⟩
  · intro a w hT
    have hAp := hT.ag hA3 [] trivial (by kernel_rfl)
    have e10 : a.tmps.getD 5 undef = .pointer (some (r_1.add 2)) := hT.vals 2 rfl 5 rfl
    have hAp := hAp.add e10
    exact opk_val hAp rfl (r_load1 Try.underlying4 rfl (hAp.get rfl) (Ext.cell hT.chg hx12)) fun _ _ e => ⟨_, e, Chg.refl _ _, fun _ => Eq.refl _⟩
  · intro a w hT
    have hAp := hT.ag hA3 [] trivial (by kernel_rfl)
    have e14 : a.tmps.getD 6 undef = .bool x_11 := hT.vals 3 rfl 6 rfl
    have hAp := hAp.add e14
    exact opk_val hAp rfl (r_move (hAp.get rfl)) fun _ _ e => ⟨_, e, Chg.refl _ _, fun _ => Eq.refl _⟩
  · intro a w hT
    have hAp := hT.ag hA3 [(0, .pointer (some r_1))] ⟨rfl, trivial⟩ (by kernel_rfl)
    have e15 : a.tmps.getD 7 undef = .bool x_11 := hT.vals 4 rfl 7 rfl
    have hAp := hAp.add e15
    exact opk_gval hAp rfl rfl (g := true) (e := x_11) rfl (fun hg => r_move (hAp.get rfl)) fun _ _ e => ⟨_, e, Chg.refl _ _, fun _ => Eq.refl _⟩
  · intro a w hT
    have hAp := hT.ag hA3 [] trivial (by kernel_rfl)
    have e16 : a.tmps.getD 7 undef = .bool x_11 := hT.vals 4 rfl 7 rfl
    have hAp := hAp.add e16
    have e17 : a.tmps.getD 8 undef = cV (true && (x_11 == false)) (.pointer (some r_1)) := hT.vals 5 rfl 8 rfl
    have hAp := hAp.add e17
    exact opk_gval hAp rfl rfl (g := true) (e := x_11) rfl (fun hg => r_nilCheck (cv_get (hAp.get rfl) hg)) fun _ _ e => ⟨_, e, Chg.refl _ _, fun _ => Eq.refl _⟩
  · intro a w hT
    have hAp := hT.ag hA3 [] trivial (by kernel_rfl)
    have e18 : a.tmps.getD 7 undef = .bool x_11 := hT.vals 4 rfl 7 rfl
    have hAp := hAp.add e18
    have e19 : a.tmps.getD 9 undef = cV (true && (x_11 == false)) (.pointer (some r_1)) := hT.vals 6 rfl 9 rfl
    have hAp := hAp.add e19
    exact opk_gval hAp rfl rfl (g := true) (e := x_11) rfl (fun hg => r_fieldAddr (cv_get (hAp.get rfl) hg) Try.underlying63 rfl ti_3 (by decide)) fun _ _ e => ⟨_, e, Chg.refl _ _, fun _ => Eq.refl _⟩
  · intro a w hT
    have hAp := hT.ag hA3 [] trivial (by kernel_rfl)
    have e20 : a.tmps.getD 7 undef = .bool x_11 := hT.vals 4 rfl 7 rfl
    have hAp := hAp.add e20
    have e21 : a.tmps.getD 10 undef = cV (true && (x_11 == false)) (.pointer (some (r_1.add 1))) := hT.vals 7 rfl 10 rfl
    have hAp := hAp.add e21
    exact opk_gval hAp rfl rfl (g := true) (e := x_11) rfl (fun hg => r_load1 Try.underlying3 rfl (cv_get (hAp.get rfl) hg) (Ext.cell hT.chg (hx23 (g_f hg)))) fun _ _ e => ⟨_, e, Chg.refl _ _, fun _ => Eq.refl _⟩
  · intro a w hT
    have hAp := hT.ag hA3 [(0, .pointer (some r_1))] ⟨rfl, trivial⟩ (by kernel_rfl)
    have e25 : a.tmps.getD 7 undef = .bool x_11 := hT.vals 4 rfl 7 rfl
    have hAp := hAp.add e25
    exact opk_gval hAp rfl rfl (g := true) (e := x_11) rfl (fun hg => r_move (hAp.get rfl)) fun _ _ e => ⟨_, e, Chg.refl _ _, fun _ => Eq.refl _⟩
  · intro a w hT
    have hAp := hT.ag hA3 [] trivial (by kernel_rfl)
    have e26 : a.tmps.getD 7 undef = .bool x_11 := hT.vals 4 rfl 7 rfl
    have hAp := hAp.add e26
    have e27 : a.tmps.getD 12 undef = cV (true && (x_11 == false)) (.pointer (some r_1)) := hT.vals 9 rfl 12 rfl
    have hAp := hAp.add e27
    exact opk_gval hAp rfl rfl (g := true) (e := x_11) rfl (fun hg => r_nilCheck (cv_get (hAp.get rfl) hg)) fun _ _ e => ⟨_, e, Chg.refl _ _, fun _ => Eq.refl _⟩
  · intro a w hT
    have hAp := hT.ag hA3 [] trivial (by kernel_rfl)
    have e28 : a.tmps.getD 7 undef = .bool x_11 := hT.vals 4 rfl 7 rfl
    have hAp := hAp.add e28
    have e29 : a.tmps.getD 13 undef = cV (true && (x_11 == false)) (.pointer (some r_1)) := hT.vals 10 rfl 13 rfl
    have hAp := hAp.add e29
    exact opk_gval hAp rfl rfl (g := true) (e := x_11) rfl (fun hg => r_fieldAddr (cv_get (hAp.get rfl) hg) Try.underlying63 rfl ti_24 (by decide)) fun _ _ e => ⟨_, e, Chg.refl _ _, fun _ => Eq.refl _⟩
  · intro a w hT
    have hAp := hT.ag hA3 [] trivial (by kernel_rfl)
    have e30 : a.tmps.getD 7 undef = .bool x_11 := hT.vals 4 rfl 7 rfl
    have hAp := hAp.add e30
    have e31 : a.tmps.getD 14 undef = cV (true && (x_11 == false)) (.pointer (some (r_1.add 0))) := hT.vals 11 rfl 14 rfl
    have hAp := hAp.add e31
    exact opk_gval hAp rfl rfl (g := true) (e := x_11) rfl (fun hg => r_load1 Try.underlying24 rfl (cv_get (hAp.get rfl) hg) (Ext.cell hT.chg (hx33 (g_f hg)))) fun _ _ e => ⟨_, e, Chg.refl _ _, fun _ => Eq.refl _⟩
  · intro a w hT
    have hAp := hT.ag hA3 [] trivial (by kernel_rfl)
    have e35 : a.tmps.getD 7 undef = .bool x_11 := hT.vals 4 rfl 7 rfl
    have hAp := hAp.add e35
    have e36 : a.tmps.getD 15 undef = cV (true && (x_11 == false)) (Sl.v x_32) := hT.vals 12 rfl 15 rfl
    have hAp := hAp.add e36
    exact opk_gval hAp rfl rfl (g := true) (e := x_11) rfl (fun hg => r_len (cv_get (hAp.get rfl) hg) Try.underlying24) fun _ _ e => ⟨_, e, Chg.refl _ _, fun _ => Eq.refl _⟩
  · intro a w hT
    have hAp := hT.ag hA3 [] trivial (by kernel_rfl)
    have e37 : a.tmps.getD 7 undef = .bool x_11 := hT.vals 4 rfl 7 rfl
    have hAp := hAp.add e37
    have e38 : a.tmps.getD 11 undef = cV (true && (x_11 == false)) (.int .i64 x_22) := hT.vals 8 rfl 11 rfl
    have hAp := hAp.add e38
    have e39 : a.tmps.getD 16 undef = cV (true && (x_11 == false)) (.int .i64 (x_32.n : Int)) := hT.vals 13 rfl 16 rfl
    have hAp := hAp.add e39
    exact opk_gval hAp rfl rfl (g := true) (e := x_11) rfl (fun hg => r_geq (cv_get (hAp.get rfl) hg) (cv_get (hAp.get rfl) hg)) fun _ _ e => ⟨_, e, Chg.refl _ _, fun _ => Eq.refl _⟩
  · intro a w hT
    have hAp := hT.ag hA3 [] trivial (by kernel_rfl)
    have e40 : a.tmps.getD 7 undef = .bool x_11 := hT.vals 4 rfl 7 rfl
    have hAp := hAp.add e40
    have e41 : a.tmps.getD 17 undef = cV (true && (x_11 == false)) (.bool (decide ((x_32.n : Int) ≤ x_22))) := hT.vals 14 rfl 17 rfl
    have hAp := hAp.add e41
    exact opk_val hAp rfl (r_pick_or (g := (true && (x_11 == false))) (hAp.get rfl) (hAp.get rfl) (fun he => g_mkf rfl he)) fun _ _ e => ⟨_, e, Chg.refl _ _, fun _ => Eq.refl _⟩
  · intro a42 w43 hE44 hag45 hv46
    have hA42 := hag45 [(0, .pointer (some r_1))] ⟨rfl, trivial⟩ (by kernel_rfl)
    have e48 : a42.tmps.getD 18 undef = .bool (x_11 || (decide ((x_32.n : Int) ≤ x_22))) := hv46 15 rfl 18 rfl
    have hA49 := hA42.add e48
    have hC50 : Chg [] w4 w43 := hE44
    refine PR_end (by kernel_rfl) ?_
    have hA51 := hA49.keep [(0, .pointer (some r_1)), (18, .bool (x_11 || (decide ((x_32.n : Int) ≤ x_22))))] ⟨rfl, rfl, trivial⟩
    refine then_normal ?_
    refine wp_cond_split (hA51.get rfl) (fun hc => ?_) (fun hc => ?_)
    · have ht52 := ht34.1 ((b_or_t hc).imp (fun h => h) (fun h => (of_decide_eq_true h)))
      clear hc
      refine wp_seq ?_
      refine wp_region_lit ?_
      refine sq (opk_val hA51 rfl (r_move (hA51.get rfl)) fun a54 hA54 _ => ?_)
      refine sq (opk_val hA54 rfl (r_nilCheck (hA54.get rfl)) fun a55 hA55 _ => ?_)
      refine sq (opk_val hA55 rfl (r_fieldAddr (hA55.get rfl) Try.underlying63 rfl ti_4 (by decide)) fun a56 hA56 _ => ?_)
      have ht61 := ht52 w43    hC50
      obtain ⟨B_62, o_63, T_64, cs_65, he66, hb67, hl68, hx69, ht70⟩ := ht61
      refine sq (opk_store hA56 hb67 (r_store (vs := [.bool true]) (((hA56.get rfl)).trans (congrArg (fun a => Value.pointer (some a)) he66)) rfl rfl ti_4 hb67 (Nat.ble_eq_true_of_le hl68) (ones_all [.bool true] rfl)) fun a58 w57 hS59 hB60 hA58 => ?_)
      have ht71 := ht70 w57 hS59 hB60
      refine sq_end ?_
      have hA72 := hA58.keep [] trivial
      refine then_normal ?_
      refine wp_seq ?_
      refine wp_region_lit ?_
      refine sq (opk_val hA72 rfl (r_assign rfl) fun a73 hA73 _ => ?_)
      refine sq_end ?_
      have hA74 := hA73.keep [(2, .int .u8 0)] ⟨rfl, trivial⟩
      refine then_normal ?_
      refine wp_ret ?_
      refine then_ret ?_
      exact res_all (vs := [.int .u8 0]) rfl hA74 ⟨res_of_tmp hA74 rfl, trivial⟩ ht71
    · have ht53 := ht34.2 ⟨(b_or_f hc).1, (of_decide_eq_false (b_or_f hc).2)⟩
      clear hc
      refine wp_skip ?_
      refine then_normal ?_
      refine wp_seq ?_
      refine wp_region_lit ?_
      refine sq (opk_val hA51 rfl (r_move (hA51.get rfl)) fun a75 hA75 _ => ?_)
      refine sq (opk_val hA75 rfl (r_nilCheck (hA75.get rfl)) fun a76 hA76 _ => ?_)
      refine sq (opk_val hA76 rfl (r_fieldAddr (hA76.get rfl) Try.underlying63 rfl ti_3 (by decide)) fun a77 hA77 _ => ?_)
      have ht79 := ht53 w43    hC50
      obtain ⟨x_80, hx81, ht82⟩ := ht79
      refine sq (opk_val hA77 rfl (r_load1 Try.underlying3 rfl (hA77.get rfl) hx81) fun a78 hA78 _ => ?_)
      obtain ⟨hS84, ht85⟩ := ht82
      refine sq (opk_val hA78 rfl (r_addI (hA78.get rfl) rfl hS84) fun a83 hA83 _ => ?_)
      refine sq (opk_val hA83 rfl (r_nilCheck (hA83.get rfl)) fun a86 hA86 _ => ?_)
      refine sq (opk_val hA86 rfl (r_fieldAddr (hA86.get rfl) Try.underlying63 rfl ti_3 (by decide)) fun a87 hA87 _ => ?_)
      obtain ⟨B_92, o_93, T_94, cs_95, he96, hb97, hl98, hx99, ht100⟩ := ht85
      refine sq (opk_store hA87 hb97 (r_store (vs := [.int .i64 (x_80 + 1)]) (((hA87.get rfl)).trans (congrArg (fun a => Value.pointer (some a)) he96)) (hA87.get rfl) rfl ti_3 hb97 (Nat.ble_eq_true_of_le hl98) (ones_all [.int .i64 (x_80 + 1)] rfl)) fun a89 w88 hS90 hB91 hA89 => ?_)
      have ht101 := ht100 w88 hS90 hB91
      refine sq_end ?_
      have hA102 := hA89.keep [(0, .pointer (some r_1))] ⟨rfl, trivial⟩
      refine then_normal ?_
      refine wp_seq ?_
      refine draw' (by kernel_rfl) fun w103 hE104 => ?_
      have hC105 : Chg [] w88 w103 := hE104
      have ht106 := ht101 w103    hC105
      obtain ⟨x_110, hx111, ht112⟩ := ht106
      obtain ⟨x_116, hx117, ht118⟩ := ht112
      obtain ⟨hS120, ht121⟩ := ht118
      obtain ⟨p_124, hp125, ht126⟩ := ht121
      obtain ⟨x_128, hx129, ht130⟩ := ht126
      refine par (D := [[], [0], [0, 1], [0, 1, 2], [], [4], [4, 5], [4, 5, 6], [4, 5, 6, 7], [0, 1, 2, 3, 4, 5, 6, 7, 8], [0, 1, 2, 3, 4, 5, 6, 7, 8, 9], [0, 1, 2, 3, 4, 5, 6, 7, 8, 9, 10]]) (S := [0, 1, 2, 3, 4, 5, 6, 7, 8, 9, 10, 11]) (F := []) (V := VL [(0, fun v _ => v = .pointer (some r_1)), (1, fun v _ => v = .pointer (some r_1)), (2, fun v _ => v = .pointer (some (r_1.add 0))), (3, fun v _ => v = Sl.v x_110), (4, fun v _ => v = .pointer (some r_1)), (5, fun v _ => v = .pointer (some r_1)), (6, fun v _ => v = .pointer (some (r_1.add 1))), (7, fun v _ => v = .int .i64 x_116), (8, fun v _ => v = .int .i64 (x_116 - 1)), (9, fun v _ => v = .pointer (some (p_124.add ((x_116 - 1).toNat * 1)))), (10, fun v _ => v = .int .u8 x_128), (11, fun v _ => v = .int .u8 x_128)]) hA102 (by kernel_rfl) ⟨fun _ _ _ _ h => by first | exact h | (change _ = _ at h; change _ = _; exact h), fun _ _ _ _ h => by first | exact h | (change _ = _ at h; change _ = _; exact h), fun _ _ _ _ h => by first | exact h | (change _ = _ at h; change _ = _; exact h), fun _ _ _ _ h => by first | exact h | (change _ = _ at h; change _ = _; exact h), fun _ _ _ _ h => by first | exact h | (change _ = _ at h; change _ = _; exact h), fun _ _ _ _ h => by first | exact h | (change _ = _ at h; change _ = _; exact h), fun _ _ _ _ h => by first | exact h | (change _ = _ at h; change _ = _; exact h), fun _ _ _ _ h => by first | exact h | (change _ = _ at h; change _ = _; exact h), fun _ _ _ _ h => by first | exact h | (change _ = _ at h; change _ = _; exact h), fun _ _ _ _ h => by first | exact h | (change _ = _ at h; change _ = _; exact h), fun _ _ _ _ h => by first | exact h | (change _ = _ at h; change _ = _; exact h), fun _ _ _ _ h => by first | exact h | (change _ = _ at h; change _ = _; exact h), trivial⟩ ⟨?_, ?_, ?_, ?_, ?_, ?_, ?_, ?_, ?_, ?_, ?_, ?_, trivial⟩ ?_
      · intro a w hT
        have hAp := hT.ag hA102 [(0, .pointer (some r_1))] ⟨rfl, trivial⟩ (by kernel_rfl)
        exact opk_val hAp rfl (r_move (hAp.get rfl)) fun _ _ e => ⟨_, e, Chg.refl _ _, fun _ => Eq.refl _⟩
      · intro a w hT
        have hAp := hT.ag hA102 [] trivial (by kernel_rfl)
        have e107 : a.tmps.getD 29 undef = .pointer (some r_1) := hT.vals 0 rfl 29 rfl
        have hAp := hAp.add e107
        exact opk_val hAp rfl (r_nilCheck (hAp.get rfl)) fun _ _ e => ⟨_, e, Chg.refl _ _, fun _ => Eq.refl _⟩
      · intro a w hT
        have hAp := hT.ag hA102 [] trivial (by kernel_rfl)
        have e108 : a.tmps.getD 30 undef = .pointer (some r_1) := hT.vals 1 rfl 30 rfl
        have hAp := hAp.add e108
        exact opk_val hAp rfl (r_fieldAddr (hAp.get rfl) Try.underlying63 rfl ti_24 (by decide)) fun _ _ e => ⟨_, e, Chg.refl _ _, fun _ => Eq.refl _⟩
      · intro a w hT
        have hAp := hT.ag hA102 [] trivial (by kernel_rfl)
        have e109 : a.tmps.getD 31 undef = .pointer (some (r_1.add 0)) := hT.vals 2 rfl 31 rfl
        have hAp := hAp.add e109
        exact opk_val hAp rfl (r_load1 Try.underlying24 rfl (hAp.get rfl) (Ext.cell hT.chg hx111)) fun _ _ e => ⟨_, e, Chg.refl _ _, fun _ => Eq.refl _⟩
      · intro a w hT
        have hAp := hT.ag hA102 [(0, .pointer (some r_1))] ⟨rfl, trivial⟩ (by kernel_rfl)
        exact opk_val hAp rfl (r_move (hAp.get rfl)) fun _ _ e => ⟨_, e, Chg.refl _ _, fun _ => Eq.refl _⟩
      · intro a w hT
        have hAp := hT.ag hA102 [] trivial (by kernel_rfl)
        have e113 : a.tmps.getD 33 undef = .pointer (some r_1) := hT.vals 4 rfl 33 rfl
        have hAp := hAp.add e113
        exact opk_val hAp rfl (r_nilCheck (hAp.get rfl)) fun _ _ e => ⟨_, e, Chg.refl _ _, fun _ => Eq.refl _⟩
      · intro a w hT
        have hAp := hT.ag hA102 [] trivial (by kernel_rfl)
        have e114 : a.tmps.getD 34 undef = .pointer (some r_1) := hT.vals 5 rfl 34 rfl
        have hAp := hAp.add e114
        exact opk_val hAp rfl (r_fieldAddr (hAp.get rfl) Try.underlying63 rfl ti_3 (by decide)) fun _ _ e => ⟨_, e, Chg.refl _ _, fun _ => Eq.refl _⟩
      · intro a w hT
        have hAp := hT.ag hA102 [] trivial (by kernel_rfl)
        have e115 : a.tmps.getD 35 undef = .pointer (some (r_1.add 1)) := hT.vals 6 rfl 35 rfl
        have hAp := hAp.add e115
        exact opk_val hAp rfl (r_load1 Try.underlying3 rfl (hAp.get rfl) (Ext.cell hT.chg hx117)) fun _ _ e => ⟨_, e, Chg.refl _ _, fun _ => Eq.refl _⟩
      · intro a w hT
        have hAp := hT.ag hA102 [] trivial (by kernel_rfl)
        have e119 : a.tmps.getD 36 undef = .int .i64 x_116 := hT.vals 7 rfl 36 rfl
        have hAp := hAp.add e119
        exact opk_val hAp rfl (r_subI (hAp.get rfl) rfl hS120) fun _ _ e => ⟨_, e, Chg.refl _ _, fun _ => Eq.refl _⟩
      · intro a w hT
        have hAp := hT.ag hA102 [] trivial (by kernel_rfl)
        have e122 : a.tmps.getD 32 undef = Sl.v x_110 := hT.vals 3 rfl 32 rfl
        have hAp := hAp.add e122
        have e123 : a.tmps.getD 37 undef = .int .i64 (x_116 - 1) := hT.vals 8 rfl 37 rfl
        have hAp := hAp.add e123
        exact opk_val hAp rfl (r_indexAddr (hAp.get rfl) (hAp.get rfl) Try.underlying24 ti_5 hp125.1 hp125.2) fun _ _ e => ⟨_, e, Chg.refl _ _, fun _ => Eq.refl _⟩
      · intro a w hT
        have hAp := hT.ag hA102 [] trivial (by kernel_rfl)
        have e127 : a.tmps.getD 38 undef = .pointer (some (p_124.add ((x_116 - 1).toNat * 1))) := hT.vals 9 rfl 38 rfl
        have hAp := hAp.add e127
        exact opk_val hAp rfl (r_load1 Try.underlying5 rfl (hAp.get rfl) (Ext.cell hT.chg hx129)) fun _ _ e => ⟨_, e, Chg.refl _ _, fun _ => Eq.refl _⟩
      · intro a w hT
        have hAp := hT.ag hA102 [] trivial (by kernel_rfl)
        have e131 : a.tmps.getD 39 undef = .int .u8 x_128 := hT.vals 10 rfl 39 rfl
        have hAp := hAp.add e131
        exact opk_val hAp rfl (r_assign (hAp.get rfl)) fun _ _ e => ⟨_, e, Chg.refl _ _, fun _ => Eq.refl _⟩
      · intro a132 w133 hE134 hag135 hv136
        have hA132 := hag135 [] trivial (by kernel_rfl)
        have e138 : a132.tmps.getD 2 undef = .int .u8 x_128 := hv136 11 rfl 2 rfl
        have hA139 := hA132.add e138
        have hC140 : Chg [] w103 w133 := hE134
        refine PR_end (by kernel_rfl) ?_
        have hA141 := hA139.keep [(2, .int .u8 x_128)] ⟨rfl, trivial⟩
        refine then_normal ?_
        refine wp_ret ?_
        have ht142 := ht130 w133    hC140
        exact res_all (vs := [.int .u8 x_128]) rfl hA141 ⟨res_of_tmp hA141 rfl, trivial⟩ ht142

/-- The condition of (*topiary/codec.reader).of. -/
def codec_reader_of.vc (r_1 : Addr) (all_2 : Sl) (R : Value → World → Prop) (w : World) : Prop :=
CallK Try.prog 34 #[.pointer (some r_1)] w [] (fun v w8 => ∃ (r_6 : Int), v = .int .u64 r_6 ∧
∃ (x_20 : Bool), (w8.cell? (r_1.add 2) = some (.bool x_20)) ∧
(((x_20 = true) ∨ ((IntKind.u64.wrap (all_2.n : Int)) ≤ r_6)) →
∃ (B_40 o_41 : Nat) (T_42 : TypeId) (cs_43 : List Value), (r_1.add 2) = ⟨B_40, o_41, none⟩ ∧ Box w8 B_40 T_42 cs_43 ∧ o_41 + 1 ≤ cs_43.length ∧ (∀ b ∈ [], b ≠ B_40) ∧
(∀ w36 : World, Chg [B_40] w8 w36 → Box w36 B_40 T_42 (putAt cs_43 o_41 [.bool true]) →
R (.string (Bs ([] : Str))) w36)) ∧
(((x_20 = false) ∧ (¬ ((IntKind.u64.wrap (all_2.n : Int)) ≤ r_6))) →
((0 : Int) ≤ r_6 ∧ r_6 < (all_2.n : Int)) ∧ ∃ p_55 : Addr, all_2.a = some p_55 ∧
∃ (x_61 : Str), (w8.cell? (p_55.add (r_6.toNat * 1)) = some (.string (Bs x_61))) ∧
R (.string (Bs x_61)) w8))
set_option maxHeartbeats 1000000 in
set_option maxRecDepth 10000 in
theorem codec_reader_of.ok (r_1 : Addr) (all_2 : Sl) {R : Value → World → Prop} {w : World} (ht0 : codec_reader_of.vc r_1 all_2 R w) : Calls Try.prog 48 #[.pointer (some r_1), Sl.v all_2] w (Ret R) := by
  refine enter [.pointer (some r_1), Sl.v all_2] Try.func48 rfl Try.ntmps48 rfl ?_
  intro a0 hA0
  unfold codec_reader_of.vc at ht0
  refine wp_seq ?_
  refine wp_region_lit ?_
  refine sq (opk_val hA0 rfl (r_assign rfl) fun a3 hA3 _ => ?_)
  refine sq_end ?_
  have hA4 := hA3.keep [(0, .pointer (some r_1)), (1, Sl.v all_2)] ⟨rfl, rfl, trivial⟩
  refine then_normal ?_
  refine wp_seq ?_
  refine wp_region_lit ?_
  refine sq (opk_val hA4 rfl (r_move (hA4.get rfl)) fun a5 hA5 _ => ?_)
  refine sq (opk_call hA5 rfl (r_call (args := #[.pointer (some r_1)]) Try.func34 (by decide) rfl (map_arr (ml_cons (hA5.get rfl) ml_nil)) rfl) ht0 fun a7 v13 w8 hA7 _ hn10 hz11 hK12 => ?_)
  obtain ⟨r_6, rfl, ht9⟩ := hK12
  refine sq (opk_val hA7 rfl (r_assign (hA7.get rfl)) fun a14 hA14 _ => ?_)
  refine sq_end ?_
  have hA15 := hA14.keep [(0, .pointer (some r_1)), (1, Sl.v all_2), (5, .int .u64 r_6)] ⟨rfl, rfl, rfl, trivial⟩
  refine then_normal ?_
  refine wp_seq ?_
  refine wp_seq ?_
  refine wp_region_lit ?_
  refine sq (opk_val hA15 rfl (r_move (hA15.get rfl)) fun a16 hA16 _ => ?_)
  refine sq (opk_val hA16 rfl (r_nilCheck (hA16.get rfl)) fun a17 hA17 _ => ?_)
  refine sq (opk_val hA17 rfl (r_fieldAddr (hA17.get rfl) Try.underlying63 rfl ti_4 (by decide)) fun a18 hA18 _ => ?_)
  obtain ⟨x_20, hx21, ht22⟩ := ht9
  refine sq (opk_val hA18 rfl (r_load1 Try.underlying4 rfl (hA18.get rfl) hx21) fun a19 hA19 _ => ?_)
  refine sq (opk_val hA19 rfl (r_move (hA19.get rfl)) fun a23 hA23 _ => ?_)
  refine sq (opk_gval hA23 rfl rfl (g := true) (e := x_20) rfl (fun hg => r_move (hA23.get rfl)) fun a24 hA24 _ => ?_)
  refine sq (opk_gval hA24 rfl rfl (g := true) (e := x_20) rfl (fun hg => r_move (hA24.get rfl)) fun a25 hA25 _ => ?_)
  refine sq (opk_gval hA25 rfl rfl (g := true) (e := x_20) rfl (fun hg => r_len (cv_get (hA25.get rfl) hg) Try.underlying46) fun a26 hA26 _ => ?_)
  refine sq (opk_gval hA26 rfl rfl (g := true) (e := x_20) rfl (fun hg => r_conv (cv_get (hA26.get rfl) hg) rfl Try.underlying22) fun a27 hA27 _ => ?_)
  refine sq (opk_gval hA27 rfl rfl (g := true) (e := x_20) rfl (fun hg => r_geq (cv_get (hA27.get rfl) hg) (cv_get (hA27.get rfl) hg)) fun a28 hA28 _ => ?_)
  refine sq (opk_val hA28 rfl (r_pick_or (g := (true && (x_20 == false))) (hA28.get rfl) (hA28.get rfl) (fun he => g_mkf rfl he)) fun a29 hA29 _ => ?_)
  refine sq_end ?_
  have hA30 := hA29.keep [(0, .pointer (some r_1)), (1, Sl.v all_2), (5, .int .u64 r_6), (18, .bool (x_20 || (decide ((IntKind.u64.wrap (all_2.n : Int)) ≤ r_6))))] ⟨rfl, rfl, rfl, rfl, trivial⟩
  refine then_normal ?_
  refine wp_cond_split (hA30.get rfl) (fun hc => ?_) (fun hc => ?_)
  · have ht31 := ht22.1 ((b_or_t hc).imp (fun h => h) (fun h => (of_decide_eq_true h)))
    clear hc
    refine wp_seq ?_
    refine wp_region_lit ?_
    refine sq (opk_val hA30 rfl (r_move (hA30.get rfl)) fun a33 hA33 _ => ?_)
    refine sq (opk_val hA33 rfl (r_nilCheck (hA33.get rfl)) fun a34 hA34 _ => ?_)
    refine sq (opk_val hA34 rfl (r_fieldAddr (hA34.get rfl) Try.underlying63 rfl ti_4 (by decide)) fun a35 hA35 _ => ?_)
    obtain ⟨B_40, o_41, T_42, cs_43, he44, hb45, hl46, hx47, ht48⟩ := ht31
    refine sq (opk_store hA35 hb45 (r_store (vs := [.bool true]) (((hA35.get rfl)).trans (congrArg (fun a => Value.pointer (some a)) he44)) rfl rfl ti_4 hb45 (Nat.ble_eq_true_of_le hl46) (ones_all [.bool true] rfl)) fun a37 w36 hS38 hB39 hA37 => ?_)
    have ht49 := ht48 w36 hS38 hB39
    refine sq_end ?_
    have hA50 := hA37.keep [] trivial
    refine then_normal ?_
    refine wp_seq ?_
    refine wp_region_lit ?_
    refine sq (opk_val hA50 rfl (r_assign rfl) fun a51 hA51 _ => ?_)
    refine sq_end ?_
    have hA52 := hA51.keep [(4, .string (Bs ([] : Str)))] ⟨rfl, trivial⟩
    refine then_normal ?_
    refine wp_ret ?_
    refine then_ret ?_
    exact res_all (vs := [.string (Bs ([] : Str))]) rfl hA52 ⟨res_of_tmp hA52 rfl, trivial⟩ ht49
  · have ht32 := ht22.2 ⟨(b_or_f hc).1, (of_decide_eq_false (b_or_f hc).2)⟩
    clear hc
    refine wp_skip ?_
    refine then_normal ?_
    refine wp_seq ?_
    refine wp_region_lit ?_
    refine sq (opk_val hA30 rfl (r_move (hA30.get rfl)) fun a53 hA53 _ => ?_)
    refine sq (opk_val hA53 rfl (r_move (hA53.get rfl)) fun a54 hA54 _ => ?_)
    obtain ⟨hb56, p_55, hp57, ht58⟩ := ht32
    refine sq (opk_val hA54 rfl (r_indexAddr (hA54.get rfl) (hA54.get rfl) Try.underlying46 ti_9 hb56 hp57) fun a59 hA59 _ => ?_)
    obtain ⟨x_61, hx62, ht63⟩ := ht58
    refine sq (opk_val hA59 rfl (r_load1 Try.underlying9 rfl (hA59.get rfl) hx62) fun a60 hA60 _ => ?_)
    refine sq (opk_val hA60 rfl (r_assign (hA60.get rfl)) fun a64 hA64 _ => ?_)
    refine sq_end ?_
    have hA65 := hA64.keep [(4, .string (Bs x_61))] ⟨rfl, trivial⟩
    refine then_normal ?_
    refine wp_ret ?_
    exact res_all (vs := [.string (Bs x_61)]) rfl hA65 ⟨res_of_tmp hA65 rfl, trivial⟩ ht63

end Go.Proofs.Yteacalmdpoblpaa
