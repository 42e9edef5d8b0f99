/-
  PRINTED BY PROGRAM: for each function its condition (vc), and that this suffices (ok).
-/
import Derived.Test.YteacalmdpoblpaaQCodecAllGT
namespace Go.Proofs.Yteacalmdpoblpaa
open Go.RowKit
set_option linter.unusedVariables false

/-- The condition of topiary/topiaryref02.Four. -/
def ref02_Four.vc (v_1 : Int) (R : Value → World → Prop) (w : World) : Prop :=
∀ (w16 : World) (B_15 : Nat), New w B_15 w16 → Chg [] w w16 →
∀ (_ : Box w16 B_15 5 [.int .u8 (IntKind.u8.wrap v_1), .int .u8 (IntKind.u8.wrap (v_1 / 2 ^ 8)), .int .u8 (IntKind.u8.wrap (v_1 / 2 ^ 16)), .int .u8 (IntKind.u8.wrap (v_1 / 2 ^ 24))]),
R (Sl.v (Sl.mk (some ⟨B_15, 0, none⟩) 4 4)) w16
set_option maxHeartbeats 1000000 in
set_option maxRecDepth 10000 in
theorem ref02_Four.ok (v_1 : Int) {R : Value → World → Prop} {w : World} (ht0 : ref02_Four.vc v_1 R w) : Calls Try.prog 17 #[.int .u32 v_1] w (Ret R) := by
  refine enter [.int .u32 v_1] Try.func17 rfl Try.ntmps17 rfl ?_
  intro a0 hA0
  unfold ref02_Four.vc at ht0
  refine wp_seq ?_
  refine wp_region_lit ?_
  refine sq (opk_val hA0 rfl (r_assign rfl) fun a2 hA2 _ => ?_)
  refine sq_end ?_
  have hA3 := hA2.keep [(0, .int .u32 v_1)] ⟨rfl, trivial⟩
  refine then_normal ?_
  refine wp_seq ?_
  refine wp_region_lit ?_
  refine sq (opk_val hA3 rfl (r_move (hA3.get rfl)) fun a4 hA4 _ => ?_)
  refine sq (opk_val hA4 rfl (r_conv (hA4.get rfl) rfl Try.underlying5) fun a5 hA5 _ => ?_)
  refine sq (opk_val hA5 rfl (r_move (hA5.get rfl)) fun a6 hA6 _ => ?_)
  refine sq (opk_val hA6 rfl (r_shr (hA6.get rfl) rfl (by decide) (by decide)) fun a7 hA7 _ => ?_)
  refine sq (opk_val hA7 rfl (r_conv (hA7.get rfl) rfl Try.underlying5) fun a8 hA8 _ => ?_)
  refine sq (opk_val hA8 rfl (r_move (hA8.get rfl)) fun a9 hA9 _ => ?_)
  refine sq (opk_val hA9 rfl (r_shr (hA9.get rfl) rfl (by decide) (by decide)) fun a10 hA10 _ => ?_)
  refine sq (opk_val hA10 rfl (r_conv (hA10.get rfl) rfl Try.underlying5) fun a11 hA11 _ => ?_)
  refine sq (opk_val hA11 rfl (r_move (hA11.get rfl)) fun a12 hA12 _ => ?_)
  refine sq (opk_val hA12 rfl (r_shr (hA12.get rfl) rfl (by decide) (by decide)) fun a13 hA13 _ => ?_)
  refine sq (opk_val hA13 rfl (r_conv (hA13.get rfl) rfl Try.underlying5) fun a14 hA14 _ => ?_)
  refine sq (opk_new (fun B => .slice (some ⟨B, 0, none⟩) 4 4) hA14 rfl (r_buildSlice (vs := #[(0, .int .u8 (IntKind.u8.wrap v_1)), (1, .int .u8 (IntKind.u8.wrap (v_1 / 2 ^ 8))), (2, .int .u8 (IntKind.u8.wrap (v_1 / 2 ^ 16))), (3, .int .u8 (IntKind.u8.wrap (v_1 / 2 ^ 24)))]) (cs := [.int .u8 (IntKind.u8.wrap v_1), .int .u8 (IntKind.u8.wrap (v_1 / 2 ^ 8)), .int .u8 (IntKind.u8.wrap (v_1 / 2 ^ 16)), .int .u8 (IntKind.u8.wrap (v_1 / 2 ^ 24))]) (map_arr2 (ml2_cons (hA14.get rfl) (ml2_cons (hA14.get rfl) (ml2_cons (hA14.get rfl) (ml2_cons (hA14.get rfl) (ml2_nil)))))) Try.underlying24 ti_5 rfl rfl (by kernel_rfl)) fun a17 w16 B_15 hE18 hN19 hB20 hA17 _ => ?_)
  have hN21 : New w B_15 w16 := hN19
  have hC22 : Chg [] w w16 := hE18
  refine sq (opk_val hA17 rfl (r_assign (hA17.get rfl)) fun a23 hA23 _ => ?_)
  refine sq_end ?_
  have hA24 := hA23.keep [(2, Sl.v (Sl.mk (some ⟨B_15, 0, none⟩) 4 4))] ⟨rfl, trivial⟩
  refine then_normal ?_
  refine wp_ret ?_
  have ht25 := ht0 w16 B_15 hN21  hC22
  have ht26 := ht25 hB20
  exact res_all (vs := [Sl.v (Sl.mk (some ⟨B_15, 0, none⟩) 4 4)]) rfl hA24 ⟨res_of_tmp hA24 rfl, trivial⟩ ht26

/-- The condition of topiary/topiaryref02.More. -/
def ref02_More.vc (sum_1 : Int) (b_2 : Sl) (R : Value → World → Prop) (w : World) : Prop :=
∃ (J_14 : Int → Int → World → Prop) (mu_15 : Int → Int → World → Nat),
J_14 (bits .xor .u32 sum_1 4294967295) 0 w ∧
(∀ (s_11 : Int) (i_12 : Int) (w13 : World), J_14 s_11 i_12 w13 →
((i_12 < (b_2.n : Int)) →
((0 : Int) ≤ i_12 ∧ i_12 < (b_2.n : Int)) ∧ ∃ p_142 : Addr, b_2.a = some p_142 ∧
∃ (x_148 : Int), (w13.cell? (p_142.add (i_12.toNat * 1)) = some (.int .u8 x_148)) ∧
∃ (J_160 : Int → Int → World → Prop) (mu_161 : Int → Int → World → Nat),
J_160 (bits .xor .u32 s_11 (IntKind.u32.wrap x_148)) 0 w13 ∧
(∀ (s_157 : Int) (k_158 : Int) (w159 : World), J_160 s_157 k_158 w159 →
((k_158 < 8) →
(I64 (k_158 + 1)) ∧
J_160 (bif decide ((bits .and .u32 s_157 1) = 1) then bits .xor .u32 (s_157 / 2 ^ 1) 3988292384 else s_157 / 2 ^ 1) (k_158 + 1) w159 ∧ mu_161 (bif decide ((bits .and .u32 s_157 1) = 1) then bits .xor .u32 (s_157 / 2 ^ 1) 3988292384 else s_157 / 2 ^ 1) (k_158 + 1) w159 < mu_161 s_157 k_158 w159) ∧
((¬ (k_158 < 8)) →
(I64 (i_12 + 1)) ∧
J_14 s_157 (i_12 + 1) w159 ∧ mu_15 s_157 (i_12 + 1) w159 < mu_15 s_11 i_12 w13))) ∧
((¬ (i_12 < (b_2.n : Int))) →
R (.int .u32 (bits .xor .u32 s_11 4294967295)) w13))
set_option maxHeartbeats 1000000 in
set_option maxRecDepth 10000 in
theorem ref02_More.ok (sum_1 : Int) (b_2 : Sl) {R : Value → World → Prop} {w : World} (ht0 : ref02_More.vc sum_1 b_2 R w) : Calls Try.prog 18 #[.int .u32 sum_1, Sl.v b_2] w (Ret R) := by
  refine enter [.int .u32 sum_1, Sl.v b_2] Try.func18 rfl Try.ntmps18 rfl ?_
  intro a0 hA0
  unfold ref02_More.vc at ht0
  refine wp_seq ?_
  refine wp_region_lit ?_
  refine sq (opk_val hA0 rfl (r_assign rfl) fun a3 hA3 _ => ?_)
  refine sq_end ?_
  have hA4 := hA3.keep [(0, .int .u32 sum_1), (1, Sl.v b_2)] ⟨rfl, rfl, trivial⟩
  refine then_normal ?_
  refine wp_seq ?_
  refine wp_region_lit ?_
  refine sq (opk_val hA4 rfl (r_move (hA4.get rfl)) fun a5 hA5 _ => ?_)
  refine sq (opk_val hA5 rfl (r_xor (hA5.get rfl) rfl) fun a6 hA6 _ => ?_)
  refine sq (opk_val hA6 rfl (r_assign (hA6.get rfl)) fun a7 hA7 _ => ?_)
  refine sq_end ?_
  have hA8 := hA7.keep [(1, Sl.v b_2), (5, .int .u32 (bits .xor .u32 sum_1 4294967295))] ⟨rfl, rfl, trivial⟩
  refine then_normal ?_
  refine wp_seq ?_
  refine wp_seq ?_
  refine wp_region_lit ?_
  refine sq (opk_val hA8 rfl (r_assign rfl) fun a9 hA9 _ => ?_)
  refine sq_end ?_
  have hA10 := hA9.keep [(1, Sl.v b_2), (5, .int .u32 (bits .xor .u32 sum_1 4294967295)), (6, .int .i64 0)] ⟨rfl, rfl, rfl, trivial⟩
  refine then_normal ?_
  refine wp_block ?_
  obtain ⟨J_14, mu_15, h0129, ht128⟩ := ht0
  refine wp_loop_st (σ := Int × Int × World) (fun s a w => Ag 38 a [(1, Sl.v b_2), (5, .int .u32 s.1), (6, .int .i64 s.2.1)] ∧ w = s.2.2 ∧ J_14 s.1 s.2.1 s.2.2) (fun s => mu_15 s.1 s.2.1 s.2.2) (bits .xor .u32 sum_1 4294967295, 0, w) ⟨hA10.keep [(1, Sl.v b_2), (5, .int .u32 (bits .xor .u32 sum_1 4294967295)), (6, .int .i64 0)] ⟨rfl, rfl, rfl, trivial⟩, rfl, h0129⟩ ?_
  rintro ⟨s_11, i_12, w13⟩ a127 w_ ⟨hA127, hw_, hJ131⟩
  have hw_ : w13 = w_ := hw_.symm
  subst hw_
  have ht130 := ht128 s_11 i_12 _ hJ131
  refine wp_seq ?_
  refine wp_seq ?_
  refine wp_region_lit ?_
  refine sq (opk_val hA127 rfl (r_move (hA127.get rfl)) fun a132 hA132 _ => ?_)
  refine sq (opk_val hA132 rfl (r_move (hA132.get rfl)) fun a133 hA133 _ => ?_)
  refine sq (opk_val hA133 rfl (r_len (hA133.get rfl) Try.underlying24) fun a134 hA134 _ => ?_)
  refine sq (opk_val hA134 rfl (r_lss (hA134.get rfl) (hA134.get rfl)) fun a135 hA135 _ => ?_)
  refine sq_end ?_
  have hA136 := hA135.keep [(1, Sl.v b_2), (5, .int .u32 s_11), (6, .int .i64 i_12), (14, .bool (decide (i_12 < (b_2.n : Int))))] ⟨rfl, rfl, rfl, rfl, trivial⟩
  refine then_normal ?_
  refine wp_cond_split (hA136.get rfl) (fun hc => ?_) (fun hc => ?_)
  · have ht137 := ht130.1 (of_decide_eq_true hc)
    clear hc
    refine wp_skip ?_
    refine then_normal ?_
    refine wp_seq ?_
    refine wp_block ?_
    refine wp_seq ?_
    refine wp_region_lit ?_
    refine sq (opk_val hA136 rfl (r_move (hA136.get rfl)) fun a139 hA139 _ => ?_)
    refine sq (opk_val hA139 rfl (r_move (hA139.get rfl)) fun a140 hA140 _ => ?_)
    refine sq (opk_val hA140 rfl (r_move (hA140.get rfl)) fun a141 hA141 _ => ?_)
    obtain ⟨hb143, p_142, hp144, ht145⟩ := ht137
    refine sq (opk_val hA141 rfl (r_indexAddr (hA141.get rfl) (hA141.get rfl) Try.underlying24 ti_5 hb143 hp144) fun a146 hA146 _ => ?_)
    obtain ⟨x_148, hx149, ht150⟩ := ht145
    refine sq (opk_val hA146 rfl (r_load1 Try.underlying5 rfl (hA146.get rfl) hx149) fun a147 hA147 _ => ?_)
    refine sq (opk_val hA147 rfl (r_conv (hA147.get rfl) rfl Try.underlying37) fun a151 hA151 _ => ?_)
    refine sq (opk_val hA151 rfl (r_xor (hA151.get rfl) (hA151.get rfl)) fun a152 hA152 _ => ?_)
    refine sq (opk_val hA152 rfl (r_assign (hA152.get rfl)) fun a153 hA153 _ => ?_)
    refine sq_end ?_
    have hA154 := hA153.keep [(1, Sl.v b_2), (5, .int .u32 (bits .xor .u32 s_11 (IntKind.u32.wrap x_148))), (6, .int .i64 i_12)] ⟨rfl, rfl, rfl, trivial⟩
    refine then_normal ?_
    refine wp_seq ?_
    refine wp_region_lit ?_
    refine sq (opk_val hA154 rfl (r_assign rfl) fun a155 hA155 _ => ?_)
    refine sq_end ?_
    have hA156 := hA155.keep [(1, Sl.v b_2), (5, .int .u32 (bits .xor .u32 s_11 (IntKind.u32.wrap x_148))), (6, .int .i64 i_12), (7, .int .i64 0)] ⟨rfl, rfl, rfl, rfl, trivial⟩
    refine then_normal ?_
    refine wp_block ?_
    obtain ⟨J_160, mu_161, h0198, ht197⟩ := ht150
    refine wp_loop_st (σ := Int × Int × World) (fun s a w => Ag 38 a [(1, Sl.v b_2), (5, .int .u32 s.1), (6, .int .i64 i_12), (7, .int .i64 s.2.1)] ∧ w = s.2.2 ∧ J_160 s.1 s.2.1 s.2.2) (fun s => mu_161 s.1 s.2.1 s.2.2) (bits .xor .u32 s_11 (IntKind.u32.wrap x_148), 0, w13) ⟨hA156.keep [(1, Sl.v b_2), (5, .int .u32 (bits .xor .u32 s_11 (IntKind.u32.wrap x_148))), (6, .int .i64 i_12), (7, .int .i64 0)] ⟨rfl, rfl, rfl, rfl, trivial⟩, rfl, h0198⟩ ?_
    rintro ⟨s_157, k_158, w159⟩ a196 w_ ⟨hA196, hw_, hJ200⟩
    have hw_ : w159 = w_ := hw_.symm
    subst hw_
    have ht199 := ht197 s_157 k_158 _ hJ200
    refine wp_seq ?_
    refine wp_seq ?_
    refine wp_region_lit ?_
    refine sq (opk_val hA196 rfl (r_move (hA196.get rfl)) fun a201 hA201 _ => ?_)
    refine sq (opk_val hA201 rfl (r_lss (hA201.get rfl) rfl) fun a202 hA202 _ => ?_)
    refine sq_end ?_
    have hA203 := hA202.keep [(1, Sl.v b_2), (5, .int .u32 s_157), (6, .int .i64 i_12), (7, .int .i64 k_158), (25, .bool (decide (k_158 < 8)))] ⟨rfl, rfl, rfl, rfl, rfl, trivial⟩
    refine then_normal ?_
    refine wp_cond_split (hA203.get rfl) (fun hc => ?_) (fun hc => ?_)
    · have ht204 := ht199.1 (of_decide_eq_true hc)
      clear hc
      refine wp_skip ?_
      refine then_normal ?_
      refine wp_seq ?_
      refine wp_block ?_
      refine wp_seq ?_
      refine wp_region_lit ?_
      refine sq (opk_val hA203 rfl (r_move (hA203.get rfl)) fun a206 hA206 _ => ?_)
      refine sq (opk_val hA206 rfl (r_and (hA206.get rfl) rfl) fun a207 hA207 _ => ?_)
      refine sq (opk_val hA207 rfl (r_assign (hA207.get rfl)) fun a208 hA208 _ => ?_)
      refine sq_end ?_
      have hA209 := hA208.keep [(1, Sl.v b_2), (5, .int .u32 s_157), (6, .int .i64 i_12), (7, .int .i64 k_158), (8, .int .u32 (bits .and .u32 s_157 1))] ⟨rfl, rfl, rfl, rfl, rfl, trivial⟩
      refine then_normal ?_
      refine wp_seq ?_
      refine wp_region_lit ?_
      refine sq (opk_val hA209 rfl (r_move (hA209.get rfl)) fun a210 hA210 _ => ?_)
      refine sq (opk_val hA210 rfl (r_shr (hA210.get rfl) rfl (by decide) (by decide)) fun a211 hA211 _ => ?_)
      refine sq (opk_val hA211 rfl (r_assign (hA211.get rfl)) fun a212 hA212 _ => ?_)
      refine sq_end ?_
      have hA213 := hA212.keep [(1, Sl.v b_2), (5, .int .u32 (s_157 / 2 ^ 1)), (6, .int .i64 i_12), (7, .int .i64 k_158), (8, .int .u32 (bits .and .u32 s_157 1))] ⟨rfl, rfl, rfl, rfl, rfl, trivial⟩
      refine then_normal ?_
      refine wp_seq ?_
      refine wp_region_lit ?_
      refine sq (opk_val hA213 rfl (r_move (hA213.get rfl)) fun a214 hA214 _ => ?_)
      refine sq (opk_val hA214 rfl (r_eql (hA214.get rfl) rfl) fun a215 hA215 _ => ?_)
      refine sq_end ?_
      have hA216 := hA215.keep [(1, Sl.v b_2), (5, .int .u32 (s_157 / 2 ^ 1)), (6, .int .i64 i_12), (7, .int .i64 k_158), (33, .bool (decide ((bits .and .u32 s_157 1) = 1)))] ⟨rfl, rfl, rfl, rfl, rfl, trivial⟩
      refine then_normal ?_
      refine wp_meet (fun a wq => Ag 38 a [(1, Sl.v b_2), (5, .int .u32 (bif decide ((bits .and .u32 s_157 1) = 1) then bits .xor .u32 (s_157 / 2 ^ 1) 3988292384 else s_157 / 2 ^ 1)), (6, .int .i64 i_12), (7, .int .i64 k_158)] ∧ wq = w159) ?_ ?_
      · refine wp_cond_split (hA216.get rfl) (fun hc => ?_) (fun hc => ?_)
        · refine wp_region_lit ?_
          refine sq (opk_val hA216 rfl (r_move (hA216.get rfl)) fun a221 hA221 _ => ?_)
          refine sq (opk_val hA221 rfl (r_xor (hA221.get rfl) rfl) fun a222 hA222 _ => ?_)
          refine sq (opk_val hA222 rfl (r_assign (hA222.get rfl)) fun a223 hA223 _ => ?_)
          refine sq_end ?_
          have hA224 := hA223.keep [(1, Sl.v b_2), (5, .int .u32 (bits .xor .u32 (s_157 / 2 ^ 1) 3988292384)), (6, .int .i64 i_12), (7, .int .i64 k_158)] ⟨rfl, rfl, rfl, rfl, trivial⟩
          have hA225 := hA224.say (t := 5) rfl (.int .u32 (bif decide ((bits .and .u32 s_157 1) = 1) then bits .xor .u32 (s_157 / 2 ^ 1) 3988292384 else s_157 / 2 ^ 1)) (by rw [hc]; rfl)
          exact then_normal ⟨hA225.keep [(1, Sl.v b_2), (5, .int .u32 (bif decide ((bits .and .u32 s_157 1) = 1) then bits .xor .u32 (s_157 / 2 ^ 1) 3988292384 else s_157 / 2 ^ 1)), (6, .int .i64 i_12), (7, .int .i64 k_158)] ⟨rfl, rfl, rfl, rfl, trivial⟩, rfl⟩
        · refine wp_skip ?_
          have hA226 := hA216.say (t := 5) rfl (.int .u32 (bif decide ((bits .and .u32 s_157 1) = 1) then bits .xor .u32 (s_157 / 2 ^ 1) 3988292384 else s_157 / 2 ^ 1)) (by rw [hc]; rfl)
          exact then_normal ⟨hA226.keep [(1, Sl.v b_2), (5, .int .u32 (bif decide ((bits .and .u32 s_157 1) = 1) then bits .xor .u32 (s_157 / 2 ^ 1) 3988292384 else s_157 / 2 ^ 1)), (6, .int .i64 i_12), (7, .int .i64 k_158)] ⟨rfl, rfl, rfl, rfl, trivial⟩, rfl⟩
      · rintro a227 w_ ⟨hA227, hw_⟩
        have hw_ : w159 = w_ := hw_.symm
        subst hw_
        refine block_normal ?_
        refine then_normal ?_
        refine wp_region_lit ?_
        refine sq (opk_val hA227 rfl (r_move (hA227.get rfl)) fun a228 hA228 _ => ?_)
        obtain ⟨hS230, ht231⟩ := ht204
        refine sq (opk_val hA228 rfl (r_addI (hA228.get rfl) rfl hS230) fun a229 hA229 _ => ?_)
        refine sq (opk_val hA229 rfl (r_assign (hA229.get rfl)) fun a232 hA232 _ => ?_)
        refine sq_end ?_
        have hA233 := hA232.keep [(1, Sl.v b_2), (5, .int .u32 (bif decide ((bits .and .u32 s_157 1) = 1) then bits .xor .u32 (s_157 / 2 ^ 1) 3988292384 else s_157 / 2 ^ 1)), (6, .int .i64 i_12), (7, .int .i64 (k_158 + 1))] ⟨rfl, rfl, rfl, rfl, trivial⟩
        have hA234 := hA233.keep [(1, Sl.v b_2), (5, .int .u32 (bif decide ((bits .and .u32 s_157 1) = 1) then bits .xor .u32 (s_157 / 2 ^ 1) 3988292384 else s_157 / 2 ^ 1)), (6, .int .i64 i_12), (7, .int .i64 (k_158 + 1))] ⟨rfl, rfl, rfl, rfl, trivial⟩
        exact then_normal ⟨((bif decide ((bits .and .u32 s_157 1) = 1) then bits .xor .u32 (s_157 / 2 ^ 1) 3988292384 else s_157 / 2 ^ 1), k_158 + 1, w159), ⟨hA234, rfl, ht231.1⟩, ht231.2⟩
    · have ht205 := ht199.2 (of_decide_eq_false hc)
      clear hc
      refine wp_exit ?_
      refine then_exit ?_
      refine then_exit ?_
      refine block_hit ?_
      have hA235 := hA203.keep [(1, Sl.v b_2), (5, .int .u32 s_157), (6, .int .i64 i_12)] ⟨rfl, rfl, rfl, trivial⟩
      refine block_normal ?_
      refine then_normal ?_
      refine wp_region_lit ?_
      refine sq (opk_val hA235 rfl (r_move (hA235.get rfl)) fun a236 hA236 _ => ?_)
      obtain ⟨hS238, ht239⟩ := ht205
      refine sq (opk_val hA236 rfl (r_addI (hA236.get rfl) rfl hS238) fun a237 hA237 _ => ?_)
      refine sq (opk_val hA237 rfl (r_assign (hA237.get rfl)) fun a240 hA240 _ => ?_)
      refine sq_end ?_
      have hA241 := hA240.keep [(1, Sl.v b_2), (5, .int .u32 s_157), (6, .int .i64 (i_12 + 1))] ⟨rfl, rfl, rfl, trivial⟩
      have hA242 := hA241.keep [(1, Sl.v b_2), (5, .int .u32 s_157), (6, .int .i64 (i_12 + 1))] ⟨rfl, rfl, rfl, trivial⟩
      exact then_normal ⟨(s_157, i_12 + 1, w159), ⟨hA242, rfl, ht239.1⟩, ht239.2⟩
  · have ht138 := ht130.2 (of_decide_eq_false hc)
    clear hc
    refine wp_exit ?_
    refine then_exit ?_
    refine then_exit ?_
    refine block_hit ?_
    have hA243 := hA136.keep [(5, .int .u32 s_11)] ⟨rfl, trivial⟩
    refine then_normal ?_
    refine wp_seq ?_
    refine wp_region_lit ?_
    refine sq (opk_val hA243 rfl (r_move (hA243.get rfl)) fun a244 hA244 _ => ?_)
    refine sq (opk_val hA244 rfl (r_xor (hA244.get rfl) rfl) fun a245 hA245 _ => ?_)
    refine sq (opk_val hA245 rfl (r_assign (hA245.get rfl)) fun a246 hA246 _ => ?_)
    refine sq_end ?_
    have hA247 := hA246.keep [(4, .int .u32 (bits .xor .u32 s_11 4294967295))] ⟨rfl, trivial⟩
    refine then_normal ?_
    refine wp_ret ?_
    exact res_all (vs := [.int .u32 (bits .xor .u32 s_11 4294967295)]) rfl hA247 ⟨res_of_tmp hA247 rfl, trivial⟩ ht138

end Go.Proofs.Yteacalmdpoblpaa
