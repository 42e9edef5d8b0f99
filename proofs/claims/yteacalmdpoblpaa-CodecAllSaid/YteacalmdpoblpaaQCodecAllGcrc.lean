/-
  PRINTED BY PROGRAM: for each function its condition (vc), and that this suffices (ok).
-/
import Derived.Test.YteacalmdpoblpaaQCodecAllGT
namespace Go.Proofs.Yteacalmdpoblpaa
open Go.RowKit
set_option linter.unusedVariables false

/-- The condition of topiary/crc.Of. -/
def crc_Of.vc (b_1 : Sl) (R : Value → World → Prop) (w : World) : Prop :=
CallK Try.prog 69 #[.int .u32 0, Sl.v b_1] w [] (fun v w7 => ∃ (r_5 : Int), v = .int .u32 r_5 ∧
R (.int .u32 r_5) w7)
set_option maxHeartbeats 1000000 in
set_option maxRecDepth 10000 in
theorem crc_Of.ok (b_1 : Sl) {R : Value → World → Prop} {w : World} (ht0 : crc_Of.vc b_1 R w) : Calls Try.prog 42 #[Sl.v b_1] w (Ret R) := by
  refine enter [Sl.v b_1] Try.func42 rfl Try.ntmps42 rfl ?_
  intro a0 hA0
  unfold crc_Of.vc at ht0
  refine wp_seq ?_
  refine wp_region_lit ?_
  refine sq (opk_val hA0 rfl (r_assign rfl) fun a2 hA2 _ => ?_)
  refine sq_end ?_
  have hA3 := hA2.keep [(0, Sl.v b_1)] ⟨rfl, trivial⟩
  refine then_normal ?_
  refine wp_seq ?_
  refine wp_region_lit ?_
  refine sq (opk_val hA3 rfl (r_move (hA3.get rfl)) fun a4 hA4 _ => ?_)
  refine sq (opk_call hA4 rfl (r_call (args := #[.int .u32 0, Sl.v b_1]) Try.func69 (by decide) rfl (map_arr (ml_cons rfl (ml_cons (hA4.get rfl) ml_nil))) rfl) ht0 fun a6 v12 w7 hA6 _ hn9 hz10 hK11 => ?_)
  obtain ⟨r_5, rfl, ht8⟩ := hK11
  refine sq (opk_val hA6 rfl (r_assign (hA6.get rfl)) fun a13 hA13 _ => ?_)
  refine sq_end ?_
  have hA14 := hA13.keep [(2, .int .u32 r_5)] ⟨rfl, trivial⟩
  refine then_normal ?_
  refine wp_ret ?_
  exact res_all (vs := [.int .u32 r_5]) rfl hA14 ⟨res_of_tmp hA14 rfl, trivial⟩ ht8

/-- The condition of topiary/crc.More. -/
def crc_More.vc (sum_1 : Int) (b_2 : Sl) (R : Value → World → Prop) (w : World) : Prop :=
∃ (J_16 : Int → Int → World → Prop) (mu_17 : Int → Int → World → Nat),
J_16 (bits .xor .u32 IntKind.u32.max sum_1) 0 w ∧
(∀ (sum_13 : Int) (x_14 : Int) (w15 : World), J_16 sum_13 x_14 w15 →
((x_14 < (b_2.n : Int)) →
((0 : Int) ≤ x_14 ∧ x_14 < (b_2.n : Int)) ∧ ∃ p_131 : Addr, b_2.a = some p_131 ∧
∃ (x_137 : Int), (w15.cell? (p_131.add (x_14.toNat * 1)) = some (.int .u8 x_137)) ∧
∃ (J_153 : Int → Int → World → Prop) (mu_154 : Int → Int → World → Nat),
J_153 (bits .xor .u32 sum_13 (IntKind.u32.wrap x_137)) 0 w15 ∧
(∀ (sum_150 : Int) (x_151 : Int) (w152 : World), J_153 sum_150 x_151 w152 →
((x_151 < 8) →
(I64 (x_151 + 1)) ∧
J_153 (bif decide ((bits .and .u32 sum_150 1) = 1) then bits .xor .u32 (sum_150 / 2 ^ 1) 3988292384 else sum_150 / 2 ^ 1) (x_151 + 1) w152 ∧ mu_154 (bif decide ((bits .and .u32 sum_150 1) = 1) then bits .xor .u32 (sum_150 / 2 ^ 1) 3988292384 else sum_150 / 2 ^ 1) (x_151 + 1) w152 < mu_154 sum_150 x_151 w152) ∧
((¬ (x_151 < 8)) →
(I64 (x_14 + 1)) ∧
J_16 sum_150 (x_14 + 1) w152 ∧ mu_17 sum_150 (x_14 + 1) w152 < mu_17 sum_13 x_14 w15))) ∧
((¬ (x_14 < (b_2.n : Int))) →
R (.int .u32 (bits .xor .u32 IntKind.u32.max sum_13)) w15))
set_option maxHeartbeats 1000000 in
set_option maxRecDepth 10000 in
theorem crc_More.ok (sum_1 : Int) (b_2 : Sl) {R : Value → World → Prop} {w : World} (ht0 : crc_More.vc sum_1 b_2 R w) : Calls Try.prog 69 #[.int .u32 sum_1, Sl.v b_2] w (Ret R) := by
  refine enter [.int .u32 sum_1, Sl.v b_2] Try.func69 rfl Try.ntmps69 rfl ?_
  intro a0 hA0
  unfold crc_More.vc at ht0
  refine wp_seq ?_
  refine wp_region_lit ?_
  refine sq (opk_val hA0 rfl (r_assign rfl) fun a3 hA3 _ => ?_)
  refine sq_end ?_
  have hA4 := hA3.keep [(0, .int .u32 sum_1), (1, Sl.v b_2)] ⟨rfl, rfl, trivial⟩
  refine then_normal ?_
  refine wp_seq ?_
  refine wp_region_lit ?_
  refine sq (opk_val hA4 rfl (r_move (hA4.get rfl)) fun a5 hA5 _ => ?_)
  refine sq (opk_val hA5 rfl (r_cplU (hA5.get rfl) rfl) fun a6 hA6 _ => ?_)
  refine sq (opk_val hA6 rfl (r_assign (hA6.get rfl)) fun a7 hA7 _ => ?_)
  refine sq_end ?_
  have hA8 := hA7.keep [(0, .int .u32 (bits .xor .u32 IntKind.u32.max sum_1)), (1, Sl.v b_2)] ⟨rfl, rfl, trivial⟩
  refine then_normal ?_
  refine wp_seq ?_
  refine wp_seq ?_
  refine wp_region_lit ?_
  refine sq (opk_val hA8 rfl (r_move (hA8.get rfl)) fun a9 hA9 _ => ?_)
  refine sq (opk_val hA9 rfl (r_len (hA9.get rfl) Try.underlying24) fun a10 hA10 _ => ?_)
  refine sq (opk_val hA10 rfl (r_move rfl) fun a11 hA11 _ => ?_)
  refine sq_end ?_
  have hA12 := hA11.keep [(0, .int .u32 (bits .xor .u32 IntKind.u32.max sum_1)), (10, Sl.v b_2), (11, .int .i64 (b_2.n : Int)), (12, .int .i64 0)] ⟨rfl, rfl, rfl, rfl, trivial⟩
  refine then_normal ?_
  refine wp_block ?_
  obtain ⟨J_16, mu_17, h0124, ht123⟩ := ht0
  refine wp_loop_st (σ := Int × Int × World) (fun s a w => Ag 34 a [(0, .int .u32 s.1), (10, Sl.v b_2), (11, .int .i64 (b_2.n : Int)), (12, .int .i64 s.2.1)] ∧ w = s.2.2 ∧ J_16 s.1 s.2.1 s.2.2) (fun s => mu_17 s.1 s.2.1 s.2.2) (bits .xor .u32 IntKind.u32.max sum_1, 0, w) ⟨hA12.keep [(0, .int .u32 (bits .xor .u32 IntKind.u32.max sum_1)), (10, Sl.v b_2), (11, .int .i64 (b_2.n : Int)), (12, .int .i64 0)] ⟨rfl, rfl, rfl, rfl, trivial⟩, rfl, h0124⟩ ?_
  rintro ⟨sum_13, x_14, w15⟩ a122 w_ ⟨hA122, hw_, hJ126⟩
  have hw_ : w15 = w_ := hw_.symm
  subst hw_
  have ht125 := ht123 sum_13 x_14 _ hJ126
  refine wp_seq ?_
  refine wp_region_lit ?_
  refine sq (opk_val hA122 rfl (r_lss (hA122.get rfl) (hA122.get rfl)) fun a127 hA127 _ => ?_)
  refine sq_end ?_
  have hA128 := hA127.keep [(0, .int .u32 sum_13), (10, Sl.v b_2), (11, .int .i64 (b_2.n : Int)), (12, .int .i64 x_14), (13, .bool (decide (x_14 < (b_2.n : Int))))] ⟨rfl, rfl, rfl, rfl, rfl, trivial⟩
  refine then_normal ?_
  refine wp_seq ?_
  refine wp_cond_split (hA128.get rfl) (fun hc => ?_) (fun hc => ?_)
  · have ht129 := ht125.1 (of_decide_eq_true hc)
    clear hc
    refine wp_skip ?_
    refine then_normal ?_
    refine wp_seq ?_
    refine wp_block ?_
    refine wp_seq ?_
    refine wp_region_lit ?_
    obtain ⟨hb132, p_131, hp133, ht134⟩ := ht129
    refine sq (opk_val hA128 rfl (r_indexAddr (hA128.get rfl) (hA128.get rfl) Try.underlying24 ti_5 hb132 hp133) fun a135 hA135 _ => ?_)
    obtain ⟨x_137, hx138, ht139⟩ := ht134
    refine sq (opk_val hA135 rfl (r_load1 Try.underlying5 rfl (hA135.get rfl) hx138) fun a136 hA136 _ => ?_)
    refine sq (opk_val hA136 rfl (r_assign (hA136.get rfl)) fun a140 hA140 _ => ?_)
    refine sq_end ?_
    have hA141 := hA140.keep [(0, .int .u32 sum_13), (6, .int .u8 x_137), (10, Sl.v b_2), (11, .int .i64 (b_2.n : Int)), (12, .int .i64 x_14)] ⟨rfl, rfl, rfl, rfl, rfl, trivial⟩
    refine then_normal ?_
    refine wp_seq ?_
    refine wp_region_lit ?_
    refine sq (opk_val hA141 rfl (r_move (hA141.get rfl)) fun a142 hA142 _ => ?_)
    refine sq (opk_val hA142 rfl (r_move (hA142.get rfl)) fun a143 hA143 _ => ?_)
    refine sq (opk_val hA143 rfl (r_conv (hA143.get rfl) rfl Try.underlying37) fun a144 hA144 _ => ?_)
    refine sq (opk_val hA144 rfl (r_xor (hA144.get rfl) (hA144.get rfl)) fun a145 hA145 _ => ?_)
    refine sq (opk_val hA145 rfl (r_assign (hA145.get rfl)) fun a146 hA146 _ => ?_)
    refine sq_end ?_
    have hA147 := hA146.keep [(0, .int .u32 (bits .xor .u32 sum_13 (IntKind.u32.wrap x_137))), (10, Sl.v b_2), (11, .int .i64 (b_2.n : Int)), (12, .int .i64 x_14)] ⟨rfl, rfl, rfl, rfl, trivial⟩
    refine then_normal ?_
    refine wp_seq ?_
    refine wp_region_lit ?_
    refine sq (opk_val hA147 rfl (r_move rfl) fun a148 hA148 _ => ?_)
    refine sq_end ?_
    have hA149 := hA148.keep [(0, .int .u32 (bits .xor .u32 sum_13 (IntKind.u32.wrap x_137))), (10, Sl.v b_2), (11, .int .i64 (b_2.n : Int)), (12, .int .i64 x_14), (20, .int .i64 0)] ⟨rfl, rfl, rfl, rfl, rfl, trivial⟩
    refine then_normal ?_
    refine wp_block ?_
    obtain ⟨J_153, mu_154, h0189, ht188⟩ := ht139
    refine wp_loop_st (σ := Int × Int × World) (fun s a w => Ag 34 a [(0, .int .u32 s.1), (10, Sl.v b_2), (11, .int .i64 (b_2.n : Int)), (12, .int .i64 x_14), (20, .int .i64 s.2.1)] ∧ w = s.2.2 ∧ J_153 s.1 s.2.1 s.2.2) (fun s => mu_154 s.1 s.2.1 s.2.2) (bits .xor .u32 sum_13 (IntKind.u32.wrap x_137), 0, w15) ⟨hA149.keep [(0, .int .u32 (bits .xor .u32 sum_13 (IntKind.u32.wrap x_137))), (10, Sl.v b_2), (11, .int .i64 (b_2.n : Int)), (12, .int .i64 x_14), (20, .int .i64 0)] ⟨rfl, rfl, rfl, rfl, rfl, trivial⟩, rfl, h0189⟩ ?_
    rintro ⟨sum_150, x_151, w152⟩ a187 w_ ⟨hA187, hw_, hJ191⟩
    have hw_ : w152 = w_ := hw_.symm
    subst hw_
    have ht190 := ht188 sum_150 x_151 _ hJ191
    refine wp_seq ?_
    refine wp_region_lit ?_
    refine sq (opk_val hA187 rfl (r_lss (hA187.get rfl) rfl) fun a192 hA192 _ => ?_)
    refine sq_end ?_
    have hA193 := hA192.keep [(0, .int .u32 sum_150), (10, Sl.v b_2), (11, .int .i64 (b_2.n : Int)), (12, .int .i64 x_14), (20, .int .i64 x_151), (21, .bool (decide (x_151 < 8)))] ⟨rfl, rfl, rfl, rfl, rfl, rfl, trivial⟩
    refine then_normal ?_
    refine wp_seq ?_
    refine wp_cond_split (hA193.get rfl) (fun hc => ?_) (fun hc => ?_)
    · have ht194 := ht190.1 (of_decide_eq_true hc)
      clear hc
      refine wp_skip ?_
      refine then_normal ?_
      refine wp_seq ?_
      refine wp_block ?_
      refine wp_seq ?_
      refine wp_region_lit ?_
      refine sq (opk_val hA193 rfl (r_move (hA193.get rfl)) fun a196 hA196 _ => ?_)
      refine sq (opk_val hA196 rfl (r_and (hA196.get rfl) rfl) fun a197 hA197 _ => ?_)
      refine sq (opk_val hA197 rfl (r_assign (hA197.get rfl)) fun a198 hA198 _ => ?_)
      refine sq_end ?_
      have hA199 := hA198.keep [(0, .int .u32 sum_150), (7, .int .u32 (bits .and .u32 sum_150 1)), (10, Sl.v b_2), (11, .int .i64 (b_2.n : Int)), (12, .int .i64 x_14), (20, .int .i64 x_151)] ⟨rfl, rfl, rfl, rfl, rfl, rfl, trivial⟩
      refine then_normal ?_
      refine wp_seq ?_
      refine wp_region_lit ?_
      refine sq (opk_val hA199 rfl (r_move (hA199.get rfl)) fun a200 hA200 _ => ?_)
      refine sq (opk_val hA200 rfl (r_shr (hA200.get rfl) rfl (by decide) (by decide)) fun a201 hA201 _ => ?_)
      refine sq (opk_val hA201 rfl (r_assign (hA201.get rfl)) fun a202 hA202 _ => ?_)
      refine sq_end ?_
      have hA203 := hA202.keep [(0, .int .u32 (sum_150 / 2 ^ 1)), (7, .int .u32 (bits .and .u32 sum_150 1)), (10, Sl.v b_2), (11, .int .i64 (b_2.n : Int)), (12, .int .i64 x_14), (20, .int .i64 x_151)] ⟨rfl, rfl, rfl, rfl, rfl, rfl, trivial⟩
      refine then_normal ?_
      refine wp_seq ?_
      refine wp_region_lit ?_
      refine sq (opk_val hA203 rfl (r_move (hA203.get rfl)) fun a204 hA204 _ => ?_)
      refine sq (opk_val hA204 rfl (r_eql (hA204.get rfl) rfl) fun a205 hA205 _ => ?_)
      refine sq_end ?_
      have hA206 := hA205.keep [(0, .int .u32 (sum_150 / 2 ^ 1)), (10, Sl.v b_2), (11, .int .i64 (b_2.n : Int)), (12, .int .i64 x_14), (20, .int .i64 x_151), (27, .bool (decide ((bits .and .u32 sum_150 1) = 1)))] ⟨rfl, rfl, rfl, rfl, rfl, rfl, trivial⟩
      refine then_normal ?_
      refine wp_meet (fun a wq => Ag 34 a [(0, .int .u32 (bif decide ((bits .and .u32 sum_150 1) = 1) then bits .xor .u32 (sum_150 / 2 ^ 1) 3988292384 else sum_150 / 2 ^ 1)), (10, Sl.v b_2), (11, .int .i64 (b_2.n : Int)), (12, .int .i64 x_14), (20, .int .i64 x_151)] ∧ wq = w152) ?_ ?_
      · refine wp_cond_split (hA206.get rfl) (fun hc => ?_) (fun hc => ?_)
        · refine wp_region_lit ?_
          refine sq (opk_val hA206 rfl (r_move (hA206.get rfl)) fun a211 hA211 _ => ?_)
          refine sq (opk_val hA211 rfl (r_xor (hA211.get rfl) rfl) fun a212 hA212 _ => ?_)
          refine sq (opk_val hA212 rfl (r_assign (hA212.get rfl)) fun a213 hA213 _ => ?_)
          refine sq_end ?_
          have hA214 := hA213.keep [(0, .int .u32 (bits .xor .u32 (sum_150 / 2 ^ 1) 3988292384)), (10, Sl.v b_2), (11, .int .i64 (b_2.n : Int)), (12, .int .i64 x_14), (20, .int .i64 x_151)] ⟨rfl, rfl, rfl, rfl, rfl, trivial⟩
          have hA215 := hA214.say (t := 0) rfl (.int .u32 (bif decide ((bits .and .u32 sum_150 1) = 1) then bits .xor .u32 (sum_150 / 2 ^ 1) 3988292384 else sum_150 / 2 ^ 1)) (by rw [hc]; rfl)
          exact then_normal ⟨hA215.keep [(0, .int .u32 (bif decide ((bits .and .u32 sum_150 1) = 1) then bits .xor .u32 (sum_150 / 2 ^ 1) 3988292384 else sum_150 / 2 ^ 1)), (10, Sl.v b_2), (11, .int .i64 (b_2.n : Int)), (12, .int .i64 x_14), (20, .int .i64 x_151)] ⟨rfl, rfl, rfl, rfl, rfl, trivial⟩, rfl⟩
        · refine wp_skip ?_
          have hA216 := hA206.say (t := 0) rfl (.int .u32 (bif decide ((bits .and .u32 sum_150 1) = 1) then bits .xor .u32 (sum_150 / 2 ^ 1) 3988292384 else sum_150 / 2 ^ 1)) (by rw [hc]; rfl)
          exact then_normal ⟨hA216.keep [(0, .int .u32 (bif decide ((bits .and .u32 sum_150 1) = 1) then bits .xor .u32 (sum_150 / 2 ^ 1) 3988292384 else sum_150 / 2 ^ 1)), (10, Sl.v b_2), (11, .int .i64 (b_2.n : Int)), (12, .int .i64 x_14), (20, .int .i64 x_151)] ⟨rfl, rfl, rfl, rfl, rfl, trivial⟩, rfl⟩
      · rintro a217 w_ ⟨hA217, hw_⟩
        have hw_ : w152 = w_ := hw_.symm
        subst hw_
        refine block_normal ?_
        refine then_normal ?_
        refine wp_region_lit ?_
        obtain ⟨hS219, ht220⟩ := ht194
        refine sq (opk_val hA217 rfl (r_addI (hA217.get rfl) rfl hS219) fun a218 hA218 _ => ?_)
        refine sq (opk_val hA218 rfl (r_move (hA218.get rfl)) fun a221 hA221 _ => ?_)
        refine sq_end ?_
        have hA222 := hA221.keep [(0, .int .u32 (bif decide ((bits .and .u32 sum_150 1) = 1) then bits .xor .u32 (sum_150 / 2 ^ 1) 3988292384 else sum_150 / 2 ^ 1)), (10, Sl.v b_2), (11, .int .i64 (b_2.n : Int)), (12, .int .i64 x_14), (20, .int .i64 (x_151 + 1))] ⟨rfl, rfl, rfl, rfl, rfl, trivial⟩
        have hA223 := hA222.keep [(0, .int .u32 (bif decide ((bits .and .u32 sum_150 1) = 1) then bits .xor .u32 (sum_150 / 2 ^ 1) 3988292384 else sum_150 / 2 ^ 1)), (10, Sl.v b_2), (11, .int .i64 (b_2.n : Int)), (12, .int .i64 x_14), (20, .int .i64 (x_151 + 1))] ⟨rfl, rfl, rfl, rfl, rfl, trivial⟩
        exact then_normal ⟨((bif decide ((bits .and .u32 sum_150 1) = 1) then bits .xor .u32 (sum_150 / 2 ^ 1) 3988292384 else sum_150 / 2 ^ 1), x_151 + 1, w152), ⟨hA223, rfl, ht220.1⟩, ht220.2⟩
    · have ht195 := ht190.2 (of_decide_eq_false hc)
      clear hc
      refine wp_exit ?_
      refine then_exit ?_
      refine then_exit ?_
      refine block_hit ?_
      have hA224 := hA193.keep [(0, .int .u32 sum_150), (10, Sl.v b_2), (11, .int .i64 (b_2.n : Int)), (12, .int .i64 x_14)] ⟨rfl, rfl, rfl, rfl, trivial⟩
      refine block_normal ?_
      refine then_normal ?_
      refine wp_region_lit ?_
      obtain ⟨hS226, ht227⟩ := ht195
      refine sq (opk_val hA224 rfl (r_addI (hA224.get rfl) rfl hS226) fun a225 hA225 _ => ?_)
      refine sq (opk_val hA225 rfl (r_move (hA225.get rfl)) fun a228 hA228 _ => ?_)
      refine sq_end ?_
      have hA229 := hA228.keep [(0, .int .u32 sum_150), (10, Sl.v b_2), (11, .int .i64 (b_2.n : Int)), (12, .int .i64 (x_14 + 1))] ⟨rfl, rfl, rfl, rfl, trivial⟩
      have hA230 := hA229.keep [(0, .int .u32 sum_150), (10, Sl.v b_2), (11, .int .i64 (b_2.n : Int)), (12, .int .i64 (x_14 + 1))] ⟨rfl, rfl, rfl, rfl, trivial⟩
      exact then_normal ⟨(sum_150, x_14 + 1, w152), ⟨hA230, rfl, ht227.1⟩, ht227.2⟩
  · have ht130 := ht125.2 (of_decide_eq_false hc)
    clear hc
    refine wp_exit ?_
    refine then_exit ?_
    refine then_exit ?_
    refine block_hit ?_
    have hA231 := hA128.keep [(0, .int .u32 sum_13)] ⟨rfl, trivial⟩
    refine then_normal ?_
    refine wp_seq ?_
    refine wp_region_lit ?_
    refine sq (opk_val hA231 rfl (r_move (hA231.get rfl)) fun a232 hA232 _ => ?_)
    refine sq (opk_val hA232 rfl (r_cplU (hA232.get rfl) rfl) fun a233 hA233 _ => ?_)
    refine sq (opk_val hA233 rfl (r_assign (hA233.get rfl)) fun a234 hA234 _ => ?_)
    refine sq_end ?_
    have hA235 := hA234.keep [(4, .int .u32 (bits .xor .u32 IntKind.u32.max sum_13))] ⟨rfl, trivial⟩
    refine then_normal ?_
    refine wp_ret ?_
    exact res_all (vs := [.int .u32 (bits .xor .u32 IntKind.u32.max sum_13)]) rfl hA235 ⟨res_of_tmp hA235 rfl, trivial⟩ ht130

end Go.Proofs.Yteacalmdpoblpaa
