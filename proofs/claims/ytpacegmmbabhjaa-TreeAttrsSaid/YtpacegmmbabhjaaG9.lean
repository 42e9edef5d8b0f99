/-
  PRINTED BY PROGRAM: for each function its condition (vc), and that this suffices (ok).
-/
import Derived.Test.YtpacegmmbabhjaaGT
namespace Go.Proofs.Ytpacegmmbabhjaa
open Go.RowKit
set_option linter.unusedVariables false

/-- The condition of topiary/topiaryref05.attrs. -/
def ref05_attrs.vc (l_1 : Sl) (R : Value → World → Prop) (w : World) : Prop :=
((12 < (l_1.n : Int)) →
R (.bool false) w) ∧
((¬ (12 < (l_1.n : Int))) →
∃ (J_16 : Int → World → Prop) (mu_17 : Int → World → Nat),
J_16 0 w ∧
(∀ (i_14 : Int) (w15 : World), J_16 i_14 w15 →
((i_14 < (l_1.n : Int)) →
∀ (w147 : World), Chg [] w15 w147 →
∃ p_153 : Addr, (((0 : Int) ≤ i_14 ∧ i_14 < (l_1.n : Int)) ∧ l_1.a = some p_153) ∧
∃ (x_158 : Str), (w147.cell? ((p_153.add (i_14.toNat * 2)).add 0) = some (.string (Bs x_158))) ∧
∃ (r_162 : Bool), (∀ w' : World, Ext w147 w' → Calls Try.prog 28 #[.string (Bs x_158)] w' (Ret fun v w'' => Ext w' w'' ∧ v = .bool r_162)) ∧
∃ p_172 : Addr, (((r_162 = true)) → ((0 : Int) ≤ i_14 ∧ i_14 < (l_1.n : Int)) ∧ l_1.a = some p_172) ∧
∃ (x_179 : Str), (((r_162 = true)) → w147.cell? ((p_172.add (i_14.toNat * 2)).add 1) = some (.string (Bs x_179))) ∧
∃ p_199 : Addr, ((((r_162 = true) ∧ (¬ (4096 < (x_179.length : Int)))) ∧ (0 < i_14)) → ((0 : Int) ≤ i_14 ∧ i_14 < (l_1.n : Int)) ∧ l_1.a = some p_199) ∧
∃ (x_206 : Str), ((((r_162 = true) ∧ (¬ (4096 < (x_179.length : Int)))) ∧ (0 < i_14)) → w147.cell? ((p_199.add (i_14.toNat * 2)).add 0) = some (.string (Bs x_206))) ∧
((((r_162 = true) ∧ (¬ (4096 < (x_179.length : Int)))) ∧ (0 < i_14)) → I64 (i_14 - 1)) ∧
∃ p_218 : Addr, ((((r_162 = true) ∧ (¬ (4096 < (x_179.length : Int)))) ∧ (0 < i_14)) → ((0 : Int) ≤ i_14 - 1 ∧ i_14 - 1 < (l_1.n : Int)) ∧ l_1.a = some p_218) ∧
∃ (x_225 : Str), ((((r_162 = true) ∧ (¬ (4096 < (x_179.length : Int)))) ∧ (0 < i_14)) → w147.cell? ((p_218.add ((i_14 - 1).toNat * 2)).add 0) = some (.string (Bs x_225))) ∧
((((r_162 = false) ∨ (4096 < (x_179.length : Int))) ∨ ((0 < i_14) ∧ (((Op.bytesLess x_206 x_225) = true) ∨ (x_206 = x_225)))) →
∀ (w237 : World), Chg [] w147 w237 →
R (.bool false) w237) ∧
((((r_162 = true) ∧ (¬ (4096 < (x_179.length : Int)))) ∧ ((¬ (0 < i_14)) ∨ (((Op.bytesLess x_206 x_225) = false) ∧ (¬ (x_206 = x_225))))) →
(I64 (i_14 + 1)) ∧
∀ (w237 : World), Chg [] w147 w237 →
J_16 (i_14 + 1) w237 ∧ mu_17 (i_14 + 1) w237 < mu_17 i_14 w15)) ∧
((¬ (i_14 < (l_1.n : Int))) →
R (.bool true) w15)))
set_option maxHeartbeats 1000000 in
set_option maxRecDepth 10000 in
theorem ref05_attrs.ok (l_1 : Sl) {R : Value → World → Prop} {w : World} (ht0 : ref05_attrs.vc l_1 R w) : Calls Try.prog 53 #[Sl.v l_1] w (Ret R) := by
  refine enter [Sl.v l_1] Try.func53 rfl Try.ntmps53 rfl ?_
  intro a0 hA0
  unfold ref05_attrs.vc at ht0
  refine wp_seq ?_
  refine wp_region_lit ?_
  refine sq (opk_val hA0 rfl (r_assign rfl) fun a2 hA2 _ => ?_)
  refine sq_end ?_
  have hA3 := hA2.keep [(0, Sl.v l_1)] ⟨rfl, trivial⟩
  refine then_normal ?_
  refine wp_seq ?_
  refine wp_seq ?_
  refine wp_region_lit ?_
  refine sq (opk_val hA3 rfl (r_move (hA3.get rfl)) fun a4 hA4 _ => ?_)
  refine sq (opk_val hA4 rfl (r_len (hA4.get rfl) Try.underlying23) fun a5 hA5 _ => ?_)
  refine sq (opk_val hA5 rfl (r_gtr (hA5.get rfl) rfl) fun a6 hA6 _ => ?_)
  refine sq_end ?_
  have hA7 := hA6.keep [(0, Sl.v l_1), (6, .bool (decide (12 < (l_1.n : Int))))] ⟨rfl, rfl, trivial⟩
  refine then_normal ?_
  refine wp_cond_split (hA7.get rfl) (fun hc => ?_) (fun hc => ?_)
  · have ht8 := ht0.1 (of_decide_eq_true hc)
    clear hc
    refine wp_seq ?_
    refine wp_region_lit ?_
    refine sq (opk_val hA7 rfl (r_assign rfl) fun a10 hA10 _ => ?_)
    refine sq_end ?_
    have hA11 := hA10.keep [(2, .bool false)] ⟨rfl, trivial⟩
    refine then_normal ?_
    refine wp_ret ?_
    refine then_ret ?_
    exact res_all (vs := [.bool false]) rfl hA11 ⟨res_of_tmp hA11 rfl, trivial⟩ ht8
  · have ht9 := ht0.2 (of_decide_eq_false hc)
    clear hc
    refine wp_skip ?_
    refine then_normal ?_
    refine wp_seq ?_
    refine wp_seq ?_
    refine wp_region_lit ?_
    refine sq (opk_val hA7 rfl (r_assign rfl) fun a12 hA12 _ => ?_)
    refine sq_end ?_
    have hA13 := hA12.keep [(0, Sl.v l_1), (3, .int .i64 0)] ⟨rfl, rfl, trivial⟩
    refine then_normal ?_
    refine wp_block ?_
    obtain ⟨J_16, mu_17, h0137, ht136⟩ := ht9
    refine wp_loop_st (σ := Int × World) (fun s a w => Ag 47 a [(0, Sl.v l_1), (3, .int .i64 s.1)] ∧ w = s.2 ∧ J_16 s.1 s.2) (fun s => mu_17 s.1 s.2) (0, w) ⟨hA13.keep [(0, Sl.v l_1), (3, .int .i64 0)] ⟨rfl, rfl, trivial⟩, rfl, h0137⟩ ?_
    rintro ⟨i_14, w15⟩ a135 w_ ⟨hA135, hw_, hJ139⟩
    have hw_ : w15 = w_ := hw_.symm
    subst hw_
    have ht138 := ht136 i_14 _ hJ139
    refine wp_seq ?_
    refine wp_seq ?_
    refine wp_region_lit ?_
    refine sq (opk_val hA135 rfl (r_move (hA135.get rfl)) fun a140 hA140 _ => ?_)
    refine sq (opk_val hA140 rfl (r_move (hA140.get rfl)) fun a141 hA141 _ => ?_)
    refine sq (opk_val hA141 rfl (r_len (hA141.get rfl) Try.underlying23) fun a142 hA142 _ => ?_)
    refine sq (opk_val hA142 rfl (r_lss (hA142.get rfl) (hA142.get rfl)) fun a143 hA143 _ => ?_)
    refine sq_end ?_
    have hA144 := hA143.keep [(0, Sl.v l_1), (3, .int .i64 i_14), (10, .bool (decide (i_14 < (l_1.n : Int))))] ⟨rfl, rfl, rfl, trivial⟩
    refine then_normal ?_
    refine wp_cond_split (hA144.get rfl) (fun hc => ?_) (fun hc => ?_)
    · have ht145 := ht138.1 (of_decide_eq_true hc)
      clear hc
      refine wp_skip ?_
      refine then_normal ?_
      refine wp_seq ?_
      refine wp_block ?_
      refine wp_seq ?_
      refine draw' (by kernel_rfl) fun w147 hE148 => ?_
      have hC149 : Chg [] w15 w147 := hE148
      have ht150 := ht145 w147    hC149
      obtain ⟨p_153, hp154, ht155⟩ := ht150
      obtain ⟨x_158, hx159, ht160⟩ := ht155
      obtain ⟨r_162, hc163, ht164⟩ := ht160
      obtain ⟨p_172, hp173, ht174⟩ := ht164
      obtain ⟨x_179, hx180, ht181⟩ := ht174
      obtain ⟨p_199, hp200, ht201⟩ := ht181
      obtain ⟨x_206, hx207, ht208⟩ := ht201
      obtain ⟨hS213, ht214⟩ := ht208
      obtain ⟨p_218, hp219, ht220⟩ := ht214
      obtain ⟨x_225, hx226, ht227⟩ := ht220
      refine par (D := [[], [], [0, 1], [0, 1, 2], [0, 1, 2, 3], [0, 1, 2, 3, 4], [0, 1, 2, 3, 4, 5], [0, 1, 2, 3, 4, 5, 6], [0, 1, 2, 3, 4, 5, 6, 7], [0, 1, 2, 3, 4, 5, 6, 7], [0, 1, 2, 3, 4, 5, 6, 7, 8, 9], [0, 1, 2, 3, 4, 5, 6, 7, 8, 9, 10], [0, 1, 2, 3, 4, 5, 6, 7, 8, 9, 10, 11], [0, 1, 2, 3, 4, 5, 6, 7, 8, 9, 10, 11, 12], [0, 1, 2, 3, 4, 5, 6, 7, 8, 9, 10, 11, 12, 13], [0, 1, 2, 3, 4, 5, 6, 7, 8, 9, 10, 11, 12, 13, 14], [0, 1, 2, 3, 4, 5, 6, 7, 8, 9, 10, 11, 12, 13, 14, 15], [0, 1, 2, 3, 4, 5, 6, 7, 8, 9, 10, 11, 12, 13, 14, 15, 16], [0, 1, 2, 3, 4, 5, 6, 7, 8, 9, 10, 11, 12, 13, 14, 15, 16, 17], [0, 1, 2, 3, 4, 5, 6, 7, 8, 9, 10, 11, 12, 13, 14, 15, 16, 17, 18], [0, 1, 2, 3, 4, 5, 6, 7, 8, 9, 10, 11, 12, 13, 14, 15, 16, 17, 18, 19], [0, 1, 2, 3, 4, 5, 6, 7, 8, 9, 10, 11, 12, 13, 14, 15, 16, 17, 18, 19], [0, 1, 2, 3, 4, 5, 6, 7, 8, 9, 10, 11, 12, 13, 14, 15, 16, 17, 18, 19, 20, 21], [0, 1, 2, 3, 4, 5, 6, 7, 8, 9, 10, 11, 12, 13, 14, 15, 16, 17, 18, 19, 20, 21, 22], [0, 1, 2, 3, 4, 5, 6, 7, 8, 9, 10, 11, 12, 13, 14, 15, 16, 17, 18, 19, 20, 21, 22, 23], [0, 1, 2, 3, 4, 5, 6, 7, 8, 9, 10, 11, 12, 13, 14, 15, 16, 17, 18, 19], [0, 1, 2, 3, 4, 5, 6, 7, 8, 9, 10, 11, 12, 13, 14, 15, 16, 17, 18, 19], [0, 1, 2, 3, 4, 5, 6, 7, 8, 9, 10, 11, 12, 13, 14, 15, 16, 17, 18, 19, 26], [0, 1, 2, 3, 4, 5, 6, 7, 8, 9, 10, 11, 12, 13, 14, 15, 16, 17, 18, 19, 25, 26, 27], [0, 1, 2, 3, 4, 5, 6, 7, 8, 9, 10, 11, 12, 13, 14, 15, 16, 17, 18, 19, 25, 26, 27, 28], [0, 1, 2, 3, 4, 5, 6, 7, 8, 9, 10, 11, 12, 13, 14, 15, 16, 17, 18, 19, 25, 26, 27, 28, 29], [0, 1, 2, 3, 4, 5, 6, 7, 8, 9, 10, 11, 12, 13, 14, 15, 16, 17, 18, 19, 20, 21, 22, 23, 24, 25, 26, 27, 28, 29, 30], [0, 1, 2, 3, 4, 5, 6, 7, 8, 9, 10, 11, 12, 13, 14, 15, 16, 17, 18, 19, 20, 21, 22, 23, 24, 25, 26, 27, 28, 29, 30, 31], [0, 1, 2, 3, 4, 5, 6, 7, 8, 9, 10, 11, 12, 13, 14, 15, 16, 17, 18, 19, 20, 21, 22, 23, 24, 25, 26, 27, 28, 29, 30, 31, 32]]) (S := [0, 1, 2, 3, 4, 5, 6, 7, 8, 9, 10, 11, 12, 13, 14, 15, 16, 17, 18, 19, 20, 21, 22, 23, 24, 25, 26, 27, 28, 29, 30, 31, 32, 33]) (F := []) (V := VL [(0, fun v _ => v = Sl.v l_1), (1, fun v _ => v = .int .i64 i_14), (2, fun v _ => v = .pointer (some (p_153.add (i_14.toNat * 2)))), (3, fun v _ => v = .pointer (some ((p_153.add (i_14.toNat * 2)).add 0))), (4, fun v _ => v = .string (Bs x_158)), (5, fun v _ => v = .bool r_162), (6, fun v _ => v = .bool (!r_162)), (7, fun v _ => v = .bool (!r_162)), (8, fun v _ => v = cV (true && ((!r_162) == false)) (Sl.v l_1)), (9, fun v _ => v = cV (true && ((!r_162) == false)) (.int .i64 i_14)), (10, fun v _ => v = cV (true && ((!r_162) == false)) (.pointer (some (p_172.add (i_14.toNat * 2))))), (11, fun v _ => v = cV (true && ((!r_162) == false)) (.pointer (some ((p_172.add (i_14.toNat * 2)).add 1)))), (12, fun v _ => v = cV (true && ((!r_162) == false)) (.string (Bs x_179))), (13, fun v _ => v = cV (true && ((!r_162) == false)) (.int .i64 (x_179.length : Int))), (14, fun v _ => v = cV (true && ((!r_162) == false)) (.bool (decide (4096 < (x_179.length : Int))))), (15, fun v _ => v = .bool ((!r_162) || (decide (4096 < (x_179.length : Int))))), (16, fun v _ => v = .bool ((!r_162) || (decide (4096 < (x_179.length : Int))))), (17, fun v _ => v = cV (true && (((!r_162) || (decide (4096 < (x_179.length : Int)))) == false)) (.int .i64 i_14)), (18, fun v _ => v = cV (true && (((!r_162) || (decide (4096 < (x_179.length : Int)))) == false)) (.bool (decide (0 < i_14)))), (19, fun v _ => v = cV (true && (((!r_162) || (decide (4096 < (x_179.length : Int)))) == false)) (.bool (decide (0 < i_14)))), (20, fun v _ => v = cV ((true && (((!r_162) || (decide (4096 < (x_179.length : Int)))) == false)) && ((decide (0 < i_14)) == true)) (Sl.v l_1)), (21, fun v _ => v = cV ((true && (((!r_162) || (decide (4096 < (x_179.length : Int)))) == false)) && ((decide (0 < i_14)) == true)) (.int .i64 i_14)), (22, fun v _ => v = cV ((true && (((!r_162) || (decide (4096 < (x_179.length : Int)))) == false)) && ((decide (0 < i_14)) == true)) (.pointer (some (p_199.add (i_14.toNat * 2))))), (23, fun v _ => v = cV ((true && (((!r_162) || (decide (4096 < (x_179.length : Int)))) == false)) && ((decide (0 < i_14)) == true)) (.pointer (some ((p_199.add (i_14.toNat * 2)).add 0)))), (24, fun v _ => v = cV ((true && (((!r_162) || (decide (4096 < (x_179.length : Int)))) == false)) && ((decide (0 < i_14)) == true)) (.string (Bs x_206))), (25, fun v _ => v = cV ((true && (((!r_162) || (decide (4096 < (x_179.length : Int)))) == false)) && ((decide (0 < i_14)) == true)) (Sl.v l_1)), (26, fun v _ => v = cV ((true && (((!r_162) || (decide (4096 < (x_179.length : Int)))) == false)) && ((decide (0 < i_14)) == true)) (.int .i64 i_14)), (27, fun v _ => v = cV ((true && (((!r_162) || (decide (4096 < (x_179.length : Int)))) == false)) && ((decide (0 < i_14)) == true)) (.int .i64 (i_14 - 1))), (28, fun v _ => v = cV ((true && (((!r_162) || (decide (4096 < (x_179.length : Int)))) == false)) && ((decide (0 < i_14)) == true)) (.pointer (some (p_218.add ((i_14 - 1).toNat * 2))))), (29, fun v _ => v = cV ((true && (((!r_162) || (decide (4096 < (x_179.length : Int)))) == false)) && ((decide (0 < i_14)) == true)) (.pointer (some ((p_218.add ((i_14 - 1).toNat * 2)).add 0)))), (30, fun v _ => v = cV ((true && (((!r_162) || (decide (4096 < (x_179.length : Int)))) == false)) && ((decide (0 < i_14)) == true)) (.string (Bs x_225))), (31, fun v _ => v = cV ((true && (((!r_162) || (decide (4096 < (x_179.length : Int)))) == false)) && ((decide (0 < i_14)) == true)) (.bool ((Op.bytesLess x_206 x_225) || (decide (x_206 = x_225))))), (32, fun v _ => v = cV (true && (((!r_162) || (decide (4096 < (x_179.length : Int)))) == false)) (.bool ((decide (0 < i_14)) && ((Op.bytesLess x_206 x_225) || (decide (x_206 = x_225)))))), (33, fun v _ => v = .bool (((!r_162) || (decide (4096 < (x_179.length : Int)))) || ((decide (0 < i_14)) && ((Op.bytesLess x_206 x_225) || (decide (x_206 = x_225))))))]) hA144 (by kernel_rfl) ⟨fun _ _ _ _ h => by first | exact h | (change _ = _ at h; change _ = _; exact h), fun _ _ _ _ h => by first | exact h | (change _ = _ at h; change _ = _; exact h), fun _ _ _ _ h => by first | exact h | (change _ = _ at h; change _ = _; exact h), fun _ _ _ _ h => by first | exact h | (change _ = _ at h; change _ = _; exact h), fun _ _ _ _ h => by first | exact h | (change _ = _ at h; change _ = _; exact h), fun _ _ _ _ h => by first | exact h | (change _ = _ at h; change _ = _; exact h), fun _ _ _ _ h => by first | exact h | (change _ = _ at h; change _ = _; exact h), fun _ _ _ _ h => by first | exact h | (change _ = _ at h; change _ = _; exact h), fun _ _ _ _ h => by first | exact h | (change _ = _ at h; change _ = _; exact h), fun _ _ _ _ h => by first | exact h | (change _ = _ at h; change _ = _; exact h), fun _ _ _ _ h => by first | exact h | (change _ = _ at h; change _ = _; exact h), fun _ _ _ _ h => by first | exact h | (change _ = _ at h; change _ = _; exact h), fun _ _ _ _ h => by first | exact h | (change _ = _ at h; change _ = _; exact h), fun _ _ _ _ h => by first | exact h | (change _ = _ at h; change _ = _; exact h), fun _ _ _ _ h => by first | exact h | (change _ = _ at h; change _ = _; exact h), fun _ _ _ _ h => by first | exact h | (change _ = _ at h; change _ = _; exact h), fun _ _ _ _ h => by first | exact h | (change _ = _ at h; change _ = _; exact h), fun _ _ _ _ h => by first | exact h | (change _ = _ at h; change _ = _; exact h), fun _ _ _ _ h => by first | exact h | (change _ = _ at h; change _ = _; exact h), fun _ _ _ _ h => by first | exact h | (change _ = _ at h; change _ = _; exact h), fun _ _ _ _ h => by first | exact h | (change _ = _ at h; change _ = _; exact h), fun _ _ _ _ h => by first | exact h | (change _ = _ at h; change _ = _; exact h), fun _ _ _ _ h => by first | exact h | (change _ = _ at h; change _ = _; exact h), fun _ _ _ _ h => by first | exact h | (change _ = _ at h; change _ = _; exact h), fun _ _ _ _ h => by first | exact h | (change _ = _ at h; change _ = _; exact h), fun _ _ _ _ h => by first | exact h | (change _ = _ at h; change _ = _; exact h), fun _ _ _ _ h => by first | exact h | (change _ = _ at h; change _ = _; exact h), fun _ _ _ _ h => by first | exact h | (change _ = _ at h; change _ = _; exact h), fun _ _ _ _ h => by first | exact h | (change _ = _ at h; change _ = _; exact h), fun _ _ _ _ h => by first | exact h | (change _ = _ at h; change _ = _; exact h), fun _ _ _ _ h => by first | exact h | (change _ = _ at h; change _ = _; exact h), fun _ _ _ _ h => by first | exact h | (change _ = _ at h; change _ = _; exact h), fun _ _ _ _ h => by first | exact h | (change _ = _ at h; change _ = _; exact h), fun _ _ _ _ h => by first | exact h | (change _ = _ at h; change _ = _; exact h), trivial⟩ ⟨?_, ?_, ?_, ?_, ?_, ?_, ?_, ?_, ?_, ?_, ?_, ?_, ?_, ?_, ?_, ?_, ?_, ?_, ?_, ?_, ?_, ?_, ?_, ?_, ?_, ?_, ?_, ?_, ?_, ?_, ?_, ?_, ?_, ?_, trivial⟩ ?_
      · intro a w hT
        have hAp := hT.ag hA144 [(0, Sl.v l_1)] ⟨rfl, trivial⟩ (by kernel_rfl)
        exact opk_val hAp rfl (r_move (hAp.get rfl)) fun _ _ e => ⟨_, e, Chg.refl _ _, fun _ => Eq.refl _⟩
      · intro a w hT
        have hAp := hT.ag hA144 [(3, .int .i64 i_14)] ⟨rfl, trivial⟩ (by kernel_rfl)
        exact opk_val hAp rfl (r_move (hAp.get rfl)) fun _ _ e => ⟨_, e, Chg.refl _ _, fun _ => Eq.refl _⟩
      · intro a w hT
        have hAp := hT.ag hA144 [] trivial (by kernel_rfl)
        have e151 : a.tmps.getD 13 undef = Sl.v l_1 := hT.vals 0 rfl 13 rfl
        have hAp := hAp.add e151
        have e152 : a.tmps.getD 14 undef = .int .i64 i_14 := hT.vals 1 rfl 14 rfl
        have hAp := hAp.add e152
        exact opk_val hAp rfl (r_indexAddr (hAp.get rfl) (hAp.get rfl) Try.underlying23 ti_33 hp154.1 hp154.2) fun _ _ e => ⟨_, e, Chg.refl _ _, fun _ => Eq.refl _⟩
      · intro a w hT
        have hAp := hT.ag hA144 [] trivial (by kernel_rfl)
        have e156 : a.tmps.getD 15 undef = .pointer (some (p_153.add (i_14.toNat * 2))) := hT.vals 2 rfl 15 rfl
        have hAp := hAp.add e156
        exact opk_val hAp rfl (r_fieldAddr (hAp.get rfl) Try.underlying33 rfl ti_9 (by decide)) fun _ _ e => ⟨_, e, Chg.refl _ _, fun _ => Eq.refl _⟩
      · intro a w hT
        have hAp := hT.ag hA144 [] trivial (by kernel_rfl)
        have e157 : a.tmps.getD 16 undef = .pointer (some ((p_153.add (i_14.toNat * 2)).add 0)) := hT.vals 3 rfl 16 rfl
        have hAp := hAp.add e157
        exact opk_val hAp rfl (r_load1 Try.underlying9 rfl (hAp.get rfl) (Ext.cell hT.chg hx159)) fun _ _ e => ⟨_, e, Chg.refl _ _, fun _ => Eq.refl _⟩
      · intro a w hT
        have hAp := hT.ag hA144 [] trivial (by kernel_rfl)
        have e161 : a.tmps.getD 17 undef = .string (Bs x_158) := hT.vals 4 rfl 17 rfl
        have hAp := hAp.add e161
        exact opk_callX hAp rfl (r_call (args := #[.string (Bs x_158)]) Try.func28 (by decide) rfl (map_arr (ml_cons (hAp.get rfl) ml_nil)) rfl) (hc163 w hT.chg) fun _ _ _ _ e hR => ⟨_, e, hR.1, fun _ => hR.2⟩
      · intro a w hT
        have hAp := hT.ag hA144 [] trivial (by kernel_rfl)
        have e165 : a.tmps.getD 18 undef = .bool r_162 := hT.vals 5 rfl 18 rfl
        have hAp := hAp.add e165
        exact opk_val hAp rfl (r_not (hAp.get rfl)) fun _ _ e => ⟨_, e, Chg.refl _ _, fun _ => Eq.refl _⟩
      · intro a w hT
        have hAp := hT.ag hA144 [] trivial (by kernel_rfl)
        have e166 : a.tmps.getD 19 undef = .bool (!r_162) := hT.vals 6 rfl 19 rfl
        have hAp := hAp.add e166
        exact opk_val hAp rfl (r_move (hAp.get rfl)) fun _ _ e => ⟨_, e, Chg.refl _ _, fun _ => Eq.refl _⟩
      · intro a w hT
        have hAp := hT.ag hA144 [(0, Sl.v l_1)] ⟨rfl, trivial⟩ (by kernel_rfl)
        have e167 : a.tmps.getD 20 undef = .bool (!r_162) := hT.vals 7 rfl 20 rfl
        have hAp := hAp.add e167
        exact opk_gval hAp rfl rfl (g := true) (e := (!r_162)) rfl (fun hg => r_move (hAp.get rfl)) fun _ _ e => ⟨_, e, Chg.refl _ _, fun _ => Eq.refl _⟩
      · intro a w hT
        have hAp := hT.ag hA144 [(3, .int .i64 i_14)] ⟨rfl, trivial⟩ (by kernel_rfl)
        have e168 : a.tmps.getD 20 undef = .bool (!r_162) := hT.vals 7 rfl 20 rfl
        have hAp := hAp.add e168
        exact opk_gval hAp rfl rfl (g := true) (e := (!r_162)) rfl (fun hg => r_move (hAp.get rfl)) fun _ _ e => ⟨_, e, Chg.refl _ _, fun _ => Eq.refl _⟩
      · intro a w hT
        have hAp := hT.ag hA144 [] trivial (by kernel_rfl)
        have e169 : a.tmps.getD 20 undef = .bool (!r_162) := hT.vals 7 rfl 20 rfl
        have hAp := hAp.add e169
        have e170 : a.tmps.getD 21 undef = cV (true && ((!r_162) == false)) (Sl.v l_1) := hT.vals 8 rfl 21 rfl
        have hAp := hAp.add e170
        have e171 : a.tmps.getD 22 undef = cV (true && ((!r_162) == false)) (.int .i64 i_14) := hT.vals 9 rfl 22 rfl
        have hAp := hAp.add e171
        exact opk_gval hAp rfl rfl (g := true) (e := (!r_162)) rfl (fun hg => r_indexAddr (cv_get (hAp.get rfl) hg) (cv_get (hAp.get rfl) hg) Try.underlying23 ti_33 (hp173 (b_not_f (g_f hg))).1 (hp173 (b_not_f (g_f hg))).2) fun _ _ e => ⟨_, e, Chg.refl _ _, fun _ => Eq.refl _⟩
      · intro a w hT
        have hAp := hT.ag hA144 [] trivial (by kernel_rfl)
        have e175 : a.tmps.getD 20 undef = .bool (!r_162) := hT.vals 7 rfl 20 rfl
        have hAp := hAp.add e175
        have e176 : a.tmps.getD 23 undef = cV (true && ((!r_162) == false)) (.pointer (some (p_172.add (i_14.toNat * 2)))) := hT.vals 10 rfl 23 rfl
        have hAp := hAp.add e176
        exact opk_gval hAp rfl rfl (g := true) (e := (!r_162)) rfl (fun hg => r_fieldAddr (cv_get (hAp.get rfl) hg) Try.underlying33 rfl ti_9 (by decide)) fun _ _ e => ⟨_, e, Chg.refl _ _, fun _ => Eq.refl _⟩
      · intro a w hT
        have hAp := hT.ag hA144 [] trivial (by kernel_rfl)
        have e177 : a.tmps.getD 20 undef = .bool (!r_162) := hT.vals 7 rfl 20 rfl
        have hAp := hAp.add e177
        have e178 : a.tmps.getD 24 undef = cV (true && ((!r_162) == false)) (.pointer (some ((p_172.add (i_14.toNat * 2)).add 1))) := hT.vals 11 rfl 24 rfl
        have hAp := hAp.add e178
        exact opk_gval hAp rfl rfl (g := true) (e := (!r_162)) rfl (fun hg => r_load1 Try.underlying9 rfl (cv_get (hAp.get rfl) hg) (Ext.cell hT.chg (hx180 (b_not_f (g_f hg))))) fun _ _ e => ⟨_, e, Chg.refl _ _, fun _ => Eq.refl _⟩
      · intro a w hT
        have hAp := hT.ag hA144 [] trivial (by kernel_rfl)
        have e182 : a.tmps.getD 20 undef = .bool (!r_162) := hT.vals 7 rfl 20 rfl
        have hAp := hAp.add e182
        have e183 : a.tmps.getD 25 undef = cV (true && ((!r_162) == false)) (.string (Bs x_179)) := hT.vals 12 rfl 25 rfl
        have hAp := hAp.add e183
        exact opk_gval hAp rfl rfl (g := true) (e := (!r_162)) rfl (fun hg => r_slen (cv_get (hAp.get rfl) hg) Try.underlying9) fun _ _ e => ⟨_, e, Chg.refl _ _, fun _ => Eq.refl _⟩
      · intro a w hT
        have hAp := hT.ag hA144 [] trivial (by kernel_rfl)
        have e184 : a.tmps.getD 20 undef = .bool (!r_162) := hT.vals 7 rfl 20 rfl
        have hAp := hAp.add e184
        have e185 : a.tmps.getD 26 undef = cV (true && ((!r_162) == false)) (.int .i64 (x_179.length : Int)) := hT.vals 13 rfl 26 rfl
        have hAp := hAp.add e185
        exact opk_gval hAp rfl rfl (g := true) (e := (!r_162)) rfl (fun hg => r_gtr (cv_get (hAp.get rfl) hg) rfl) fun _ _ e => ⟨_, e, Chg.refl _ _, fun _ => Eq.refl _⟩
      · intro a w hT
        have hAp := hT.ag hA144 [] trivial (by kernel_rfl)
        have e186 : a.tmps.getD 20 undef = .bool (!r_162) := hT.vals 7 rfl 20 rfl
        have hAp := hAp.add e186
        have e187 : a.tmps.getD 27 undef = cV (true && ((!r_162) == false)) (.bool (decide (4096 < (x_179.length : Int)))) := hT.vals 14 rfl 27 rfl
        have hAp := hAp.add e187
        exact opk_val hAp rfl (r_pick_or (g := (true && ((!r_162) == false))) (hAp.get rfl) (hAp.get rfl) (fun he => g_mkf rfl he)) fun _ _ e => ⟨_, e, Chg.refl _ _, fun _ => Eq.refl _⟩
      · intro a w hT
        have hAp := hT.ag hA144 [] trivial (by kernel_rfl)
        have e188 : a.tmps.getD 28 undef = .bool ((!r_162) || (decide (4096 < (x_179.length : Int)))) := hT.vals 15 rfl 28 rfl
        have hAp := hAp.add e188
        exact opk_val hAp rfl (r_move (hAp.get rfl)) fun _ _ e => ⟨_, e, Chg.refl _ _, fun _ => Eq.refl _⟩
      · intro a w hT
        have hAp := hT.ag hA144 [(3, .int .i64 i_14)] ⟨rfl, trivial⟩ (by kernel_rfl)
        have e189 : a.tmps.getD 29 undef = .bool ((!r_162) || (decide (4096 < (x_179.length : Int)))) := hT.vals 16 rfl 29 rfl
        have hAp := hAp.add e189
        exact opk_gval hAp rfl rfl (g := true) (e := ((!r_162) || (decide (4096 < (x_179.length : Int))))) rfl (fun hg => r_move (hAp.get rfl)) fun _ _ e => ⟨_, e, Chg.refl _ _, fun _ => Eq.refl _⟩
      · intro a w hT
        have hAp := hT.ag hA144 [] trivial (by kernel_rfl)
        have e190 : a.tmps.getD 29 undef = .bool ((!r_162) || (decide (4096 < (x_179.length : Int)))) := hT.vals 16 rfl 29 rfl
        have hAp := hAp.add e190
        have e191 : a.tmps.getD 30 undef = cV (true && (((!r_162) || (decide (4096 < (x_179.length : Int)))) == false)) (.int .i64 i_14) := hT.vals 17 rfl 30 rfl
        have hAp := hAp.add e191
        exact opk_gval hAp rfl rfl (g := true) (e := ((!r_162) || (decide (4096 < (x_179.length : Int))))) rfl (fun hg => r_gtr (cv_get (hAp.get rfl) hg) rfl) fun _ _ e => ⟨_, e, Chg.refl _ _, fun _ => Eq.refl _⟩
      · intro a w hT
        have hAp := hT.ag hA144 [] trivial (by kernel_rfl)
        have e192 : a.tmps.getD 29 undef = .bool ((!r_162) || (decide (4096 < (x_179.length : Int)))) := hT.vals 16 rfl 29 rfl
        have hAp := hAp.add e192
        have e193 : a.tmps.getD 31 undef = cV (true && (((!r_162) || (decide (4096 < (x_179.length : Int)))) == false)) (.bool (decide (0 < i_14))) := hT.vals 18 rfl 31 rfl
        have hAp := hAp.add e193
        exact opk_gval hAp rfl rfl (g := true) (e := ((!r_162) || (decide (4096 < (x_179.length : Int))))) rfl (fun hg => r_move (cv_get (hAp.get rfl) hg)) fun _ _ e => ⟨_, e, Chg.refl _ _, fun _ => Eq.refl _⟩
      · intro a w hT
        have hAp := hT.ag hA144 [(0, Sl.v l_1)] ⟨rfl, trivial⟩ (by kernel_rfl)
        have e194 : a.tmps.getD 32 undef = cV (true && (((!r_162) || (decide (4096 < (x_179.length : Int)))) == false)) (.bool (decide (0 < i_14))) := hT.vals 19 rfl 32 rfl
        have hAp := hAp.add e194
        exact opk_gval hAp rfl rfl (g := (true && (((!r_162) || (decide (4096 < (x_179.length : Int)))) == false))) (e := (decide (0 < i_14))) rfl (fun hg => r_move (hAp.get rfl)) fun _ _ e => ⟨_, e, Chg.refl _ _, fun _ => Eq.refl _⟩
      · intro a w hT
        have hAp := hT.ag hA144 [(3, .int .i64 i_14)] ⟨rfl, trivial⟩ (by kernel_rfl)
        have e195 : a.tmps.getD 32 undef = cV (true && (((!r_162) || (decide (4096 < (x_179.length : Int)))) == false)) (.bool (decide (0 < i_14))) := hT.vals 19 rfl 32 rfl
        have hAp := hAp.add e195
        exact opk_gval hAp rfl rfl (g := (true && (((!r_162) || (decide (4096 < (x_179.length : Int)))) == false))) (e := (decide (0 < i_14))) rfl (fun hg => r_move (hAp.get rfl)) fun _ _ e => ⟨_, e, Chg.refl _ _, fun _ => Eq.refl _⟩
      · intro a w hT
        have hAp := hT.ag hA144 [] trivial (by kernel_rfl)
        have e196 : a.tmps.getD 32 undef = cV (true && (((!r_162) || (decide (4096 < (x_179.length : Int)))) == false)) (.bool (decide (0 < i_14))) := hT.vals 19 rfl 32 rfl
        have hAp := hAp.add e196
        have e197 : a.tmps.getD 33 undef = cV ((true && (((!r_162) || (decide (4096 < (x_179.length : Int)))) == false)) && ((decide (0 < i_14)) == true)) (Sl.v l_1) := hT.vals 20 rfl 33 rfl
        have hAp := hAp.add e197
        have e198 : a.tmps.getD 34 undef = cV ((true && (((!r_162) || (decide (4096 < (x_179.length : Int)))) == false)) && ((decide (0 < i_14)) == true)) (.int .i64 i_14) := hT.vals 21 rfl 34 rfl
        have hAp := hAp.add e198
        exact opk_gval hAp rfl rfl (g := (true && (((!r_162) || (decide (4096 < (x_179.length : Int)))) == false))) (e := (decide (0 < i_14))) rfl (fun hg => r_indexAddr (cv_get (hAp.get rfl) hg) (cv_get (hAp.get rfl) hg) Try.underlying23 ti_33 (hp200 ⟨⟨(b_not_f (b_or_f (g_f (g_up hg))).1), (of_decide_eq_false (b_or_f (g_f (g_up hg))).2)⟩, (of_decide_eq_true (g_t hg))⟩).1 (hp200 ⟨⟨(b_not_f (b_or_f (g_f (g_up hg))).1), (of_decide_eq_false (b_or_f (g_f (g_up hg))).2)⟩, (of_decide_eq_true (g_t hg))⟩).2) fun _ _ e => ⟨_, e, Chg.refl _ _, fun _ => Eq.refl _⟩
      · intro a w hT
        have hAp := hT.ag hA144 [] trivial (by kernel_rfl)
        have e202 : a.tmps.getD 32 undef = cV (true && (((!r_162) || (decide (4096 < (x_179.length : Int)))) == false)) (.bool (decide (0 < i_14))) := hT.vals 19 rfl 32 rfl
        have hAp := hAp.add e202
        have e203 : a.tmps.getD 35 undef = cV ((true && (((!r_162) || (decide (4096 < (x_179.length : Int)))) == false)) && ((decide (0 < i_14)) == true)) (.pointer (some (p_199.add (i_14.toNat * 2)))) := hT.vals 22 rfl 35 rfl
        have hAp := hAp.add e203
        exact opk_gval hAp rfl rfl (g := (true && (((!r_162) || (decide (4096 < (x_179.length : Int)))) == false))) (e := (decide (0 < i_14))) rfl (fun hg => r_fieldAddr (cv_get (hAp.get rfl) hg) Try.underlying33 rfl ti_9 (by decide)) fun _ _ e => ⟨_, e, Chg.refl _ _, fun _ => Eq.refl _⟩
      · intro a w hT
        have hAp := hT.ag hA144 [] trivial (by kernel_rfl)
        have e204 : a.tmps.getD 32 undef = cV (true && (((!r_162) || (decide (4096 < (x_179.length : Int)))) == false)) (.bool (decide (0 < i_14))) := hT.vals 19 rfl 32 rfl
        have hAp := hAp.add e204
        have e205 : a.tmps.getD 36 undef = cV ((true && (((!r_162) || (decide (4096 < (x_179.length : Int)))) == false)) && ((decide (0 < i_14)) == true)) (.pointer (some ((p_199.add (i_14.toNat * 2)).add 0))) := hT.vals 23 rfl 36 rfl
        have hAp := hAp.add e205
        exact opk_gval hAp rfl rfl (g := (true && (((!r_162) || (decide (4096 < (x_179.length : Int)))) == false))) (e := (decide (0 < i_14))) rfl (fun hg => r_load1 Try.underlying9 rfl (cv_get (hAp.get rfl) hg) (Ext.cell hT.chg (hx207 ⟨⟨(b_not_f (b_or_f (g_f (g_up hg))).1), (of_decide_eq_false (b_or_f (g_f (g_up hg))).2)⟩, (of_decide_eq_true (g_t hg))⟩))) fun _ _ e => ⟨_, e, Chg.refl _ _, fun _ => Eq.refl _⟩
      · intro a w hT
        have hAp := hT.ag hA144 [(0, Sl.v l_1)] ⟨rfl, trivial⟩ (by kernel_rfl)
        have e209 : a.tmps.getD 32 undef = cV (true && (((!r_162) || (decide (4096 < (x_179.length : Int)))) == false)) (.bool (decide (0 < i_14))) := hT.vals 19 rfl 32 rfl
        have hAp := hAp.add e209
        exact opk_gval hAp rfl rfl (g := (true && (((!r_162) || (decide (4096 < (x_179.length : Int)))) == false))) (e := (decide (0 < i_14))) rfl (fun hg => r_move (hAp.get rfl)) fun _ _ e => ⟨_, e, Chg.refl _ _, fun _ => Eq.refl _⟩
      · intro a w hT
        have hAp := hT.ag hA144 [(3, .int .i64 i_14)] ⟨rfl, trivial⟩ (by kernel_rfl)
        have e210 : a.tmps.getD 32 undef = cV (true && (((!r_162) || (decide (4096 < (x_179.length : Int)))) == false)) (.bool (decide (0 < i_14))) := hT.vals 19 rfl 32 rfl
        have hAp := hAp.add e210
        exact opk_gval hAp rfl rfl (g := (true && (((!r_162) || (decide (4096 < (x_179.length : Int)))) == false))) (e := (decide (0 < i_14))) rfl (fun hg => r_move (hAp.get rfl)) fun _ _ e => ⟨_, e, Chg.refl _ _, fun _ => Eq.refl _⟩
      · intro a w hT
        have hAp := hT.ag hA144 [] trivial (by kernel_rfl)
        have e211 : a.tmps.getD 32 undef = cV (true && (((!r_162) || (decide (4096 < (x_179.length : Int)))) == false)) (.bool (decide (0 < i_14))) := hT.vals 19 rfl 32 rfl
        have hAp := hAp.add e211
        have e212 : a.tmps.getD 39 undef = cV ((true && (((!r_162) || (decide (4096 < (x_179.length : Int)))) == false)) && ((decide (0 < i_14)) == true)) (.int .i64 i_14) := hT.vals 26 rfl 39 rfl
        have hAp := hAp.add e212
        exact opk_gval hAp rfl rfl (g := (true && (((!r_162) || (decide (4096 < (x_179.length : Int)))) == false))) (e := (decide (0 < i_14))) rfl (fun hg => r_subI (cv_get (hAp.get rfl) hg) rfl (hS213 ⟨⟨(b_not_f (b_or_f (g_f (g_up hg))).1), (of_decide_eq_false (b_or_f (g_f (g_up hg))).2)⟩, (of_decide_eq_true (g_t hg))⟩)) fun _ _ e => ⟨_, e, Chg.refl _ _, fun _ => Eq.refl _⟩
      · intro a w hT
        have hAp := hT.ag hA144 [] trivial (by kernel_rfl)
        have e215 : a.tmps.getD 32 undef = cV (true && (((!r_162) || (decide (4096 < (x_179.length : Int)))) == false)) (.bool (decide (0 < i_14))) := hT.vals 19 rfl 32 rfl
        have hAp := hAp.add e215
        have e216 : a.tmps.getD 38 undef = cV ((true && (((!r_162) || (decide (4096 < (x_179.length : Int)))) == false)) && ((decide (0 < i_14)) == true)) (Sl.v l_1) := hT.vals 25 rfl 38 rfl
        have hAp := hAp.add e216
        have e217 : a.tmps.getD 40 undef = cV ((true && (((!r_162) || (decide (4096 < (x_179.length : Int)))) == false)) && ((decide (0 < i_14)) == true)) (.int .i64 (i_14 - 1)) := hT.vals 27 rfl 40 rfl
        have hAp := hAp.add e217
        exact opk_gval hAp rfl rfl (g := (true && (((!r_162) || (decide (4096 < (x_179.length : Int)))) == false))) (e := (decide (0 < i_14))) rfl (fun hg => r_indexAddr (cv_get (hAp.get rfl) hg) (cv_get (hAp.get rfl) hg) Try.underlying23 ti_33 (hp219 ⟨⟨(b_not_f (b_or_f (g_f (g_up hg))).1), (of_decide_eq_false (b_or_f (g_f (g_up hg))).2)⟩, (of_decide_eq_true (g_t hg))⟩).1 (hp219 ⟨⟨(b_not_f (b_or_f (g_f (g_up hg))).1), (of_decide_eq_false (b_or_f (g_f (g_up hg))).2)⟩, (of_decide_eq_true (g_t hg))⟩).2) fun _ _ e => ⟨_, e, Chg.refl _ _, fun _ => Eq.refl _⟩
      · intro a w hT
        have hAp := hT.ag hA144 [] trivial (by kernel_rfl)
        have e221 : a.tmps.getD 32 undef = cV (true && (((!r_162) || (decide (4096 < (x_179.length : Int)))) == false)) (.bool (decide (0 < i_14))) := hT.vals 19 rfl 32 rfl
        have hAp := hAp.add e221
        have e222 : a.tmps.getD 41 undef = cV ((true && (((!r_162) || (decide (4096 < (x_179.length : Int)))) == false)) && ((decide (0 < i_14)) == true)) (.pointer (some (p_218.add ((i_14 - 1).toNat * 2)))) := hT.vals 28 rfl 41 rfl
        have hAp := hAp.add e222
        exact opk_gval hAp rfl rfl (g := (true && (((!r_162) || (decide (4096 < (x_179.length : Int)))) == false))) (e := (decide (0 < i_14))) rfl (fun hg => r_fieldAddr (cv_get (hAp.get rfl) hg) Try.underlying33 rfl ti_9 (by decide)) fun _ _ e => ⟨_, e, Chg.refl _ _, fun _ => Eq.refl _⟩
      · intro a w hT
        have hAp := hT.ag hA144 [] trivial (by kernel_rfl)
        have e223 : a.tmps.getD 32 undef = cV (true && (((!r_162) || (decide (4096 < (x_179.length : Int)))) == false)) (.bool (decide (0 < i_14))) := hT.vals 19 rfl 32 rfl
        have hAp := hAp.add e223
        have e224 : a.tmps.getD 42 undef = cV ((true && (((!r_162) || (decide (4096 < (x_179.length : Int)))) == false)) && ((decide (0 < i_14)) == true)) (.pointer (some ((p_218.add ((i_14 - 1).toNat * 2)).add 0))) := hT.vals 29 rfl 42 rfl
        have hAp := hAp.add e224
        exact opk_gval hAp rfl rfl (g := (true && (((!r_162) || (decide (4096 < (x_179.length : Int)))) == false))) (e := (decide (0 < i_14))) rfl (fun hg => r_load1 Try.underlying9 rfl (cv_get (hAp.get rfl) hg) (Ext.cell hT.chg (hx226 ⟨⟨(b_not_f (b_or_f (g_f (g_up hg))).1), (of_decide_eq_false (b_or_f (g_f (g_up hg))).2)⟩, (of_decide_eq_true (g_t hg))⟩))) fun _ _ e => ⟨_, e, Chg.refl _ _, fun _ => Eq.refl _⟩
      · intro a w hT
        have hAp := hT.ag hA144 [] trivial (by kernel_rfl)
        have e228 : a.tmps.getD 32 undef = cV (true && (((!r_162) || (decide (4096 < (x_179.length : Int)))) == false)) (.bool (decide (0 < i_14))) := hT.vals 19 rfl 32 rfl
        have hAp := hAp.add e228
        have e229 : a.tmps.getD 37 undef = cV ((true && (((!r_162) || (decide (4096 < (x_179.length : Int)))) == false)) && ((decide (0 < i_14)) == true)) (.string (Bs x_206)) := hT.vals 24 rfl 37 rfl
        have hAp := hAp.add e229
        have e230 : a.tmps.getD 43 undef = cV ((true && (((!r_162) || (decide (4096 < (x_179.length : Int)))) == false)) && ((decide (0 < i_14)) == true)) (.string (Bs x_225)) := hT.vals 30 rfl 43 rfl
        have hAp := hAp.add e230
        exact opk_gval hAp rfl rfl (g := (true && (((!r_162) || (decide (4096 < (x_179.length : Int)))) == false))) (e := (decide (0 < i_14))) rfl (fun hg => r_sleq (cv_get (hAp.get rfl) hg) (cv_get (hAp.get rfl) hg)) fun _ _ e => ⟨_, e, Chg.refl _ _, fun _ => Eq.refl _⟩
      · intro a w hT
        have hAp := hT.ag hA144 [] trivial (by kernel_rfl)
        have e231 : a.tmps.getD 29 undef = .bool ((!r_162) || (decide (4096 < (x_179.length : Int)))) := hT.vals 16 rfl 29 rfl
        have hAp := hAp.add e231
        have e232 : a.tmps.getD 32 undef = cV (true && (((!r_162) || (decide (4096 < (x_179.length : Int)))) == false)) (.bool (decide (0 < i_14))) := hT.vals 19 rfl 32 rfl
        have hAp := hAp.add e232
        have e233 : a.tmps.getD 44 undef = cV ((true && (((!r_162) || (decide (4096 < (x_179.length : Int)))) == false)) && ((decide (0 < i_14)) == true)) (.bool ((Op.bytesLess x_206 x_225) || (decide (x_206 = x_225)))) := hT.vals 31 rfl 44 rfl
        have hAp := hAp.add e233
        exact opk_gval hAp rfl rfl (g := true) (e := ((!r_162) || (decide (4096 < (x_179.length : Int))))) rfl (fun hg => r_pick_and (g := ((true && (((!r_162) || (decide (4096 < (x_179.length : Int)))) == false)) && ((decide (0 < i_14)) == true))) (cv_get (hAp.get rfl) hg) (hAp.get rfl) (fun he => g_mkt hg he)) fun _ _ e => ⟨_, e, Chg.refl _ _, fun _ => Eq.refl _⟩
      · intro a w hT
        have hAp := hT.ag hA144 [] trivial (by kernel_rfl)
        have e234 : a.tmps.getD 29 undef = .bool ((!r_162) || (decide (4096 < (x_179.length : Int)))) := hT.vals 16 rfl 29 rfl
        have hAp := hAp.add e234
        have e235 : a.tmps.getD 45 undef = cV (true && (((!r_162) || (decide (4096 < (x_179.length : Int)))) == false)) (.bool ((decide (0 < i_14)) && ((Op.bytesLess x_206 x_225) || (decide (x_206 = x_225))))) := hT.vals 32 rfl 45 rfl
        have hAp := hAp.add e235
        exact opk_val hAp rfl (r_pick_or (g := (true && (((!r_162) || (decide (4096 < (x_179.length : Int)))) == false))) (hAp.get rfl) (hAp.get rfl) (fun he => g_mkf rfl he)) fun _ _ e => ⟨_, e, Chg.refl _ _, fun _ => Eq.refl _⟩
      · intro a236 w237 hE238 hag239 hv240
        have hA236 := hag239 [(0, Sl.v l_1), (3, .int .i64 i_14)] ⟨rfl, rfl, trivial⟩ (by kernel_rfl)
        have e242 : a236.tmps.getD 46 undef = .bool (((!r_162) || (decide (4096 < (x_179.length : Int)))) || ((decide (0 < i_14)) && ((Op.bytesLess x_206 x_225) || (decide (x_206 = x_225))))) := hv240 33 rfl 46 rfl
        have hA243 := hA236.add e242
        have hC244 : Chg [] w147 w237 := hE238
        refine PR_end (by kernel_rfl) ?_
        have hA245 := hA243.keep [(0, Sl.v l_1), (3, .int .i64 i_14), (46, .bool (((!r_162) || (decide (4096 < (x_179.length : Int)))) || ((decide (0 < i_14)) && ((Op.bytesLess x_206 x_225) || (decide (x_206 = x_225))))))] ⟨rfl, rfl, rfl, trivial⟩
        refine then_normal ?_
        refine wp_cond_split (hA245.get rfl) (fun hc => ?_) (fun hc => ?_)
        · have ht246 := ht227.1 ((b_or_t hc).imp (fun h => ((b_or_t h).imp (fun h => (b_not_t h)) (fun h => (of_decide_eq_true h)))) (fun h => ⟨(of_decide_eq_true (b_and_t h).1), ((b_or_t (b_and_t h).2).imp (fun h => h) (fun h => (of_decide_eq_true h)))⟩))
          clear hc
          refine wp_seq ?_
          refine wp_region_lit ?_
          refine sq (opk_val hA245 rfl (r_assign rfl) fun a248 hA248 _ => ?_)
          refine sq_end ?_
          have hA249 := hA248.keep [(2, .bool false)] ⟨rfl, trivial⟩
          refine then_normal ?_
          refine wp_ret ?_
          refine block_ret ?_
          refine then_ret ?_
          refine then_ret ?_
          refine block_ret ?_
          refine then_ret ?_
          have ht250 := ht246 w237    hC244
          exact res_all (vs := [.bool false]) rfl hA249 ⟨res_of_tmp hA249 rfl, trivial⟩ ht250
        · have ht247 := ht227.2 ⟨⟨(b_not_f (b_or_f (b_or_f hc).1).1), (of_decide_eq_false (b_or_f (b_or_f hc).1).2)⟩, ((b_and_f (b_or_f hc).2).imp (fun h => (of_decide_eq_false h)) (fun h => ⟨(b_or_f h).1, (of_decide_eq_false (b_or_f h).2)⟩))⟩
          clear hc
          refine wp_skip ?_
          refine block_normal ?_
          refine then_normal ?_
          refine wp_region_lit ?_
          refine sq (opk_val hA245 rfl (r_move (hA245.get rfl)) fun a251 hA251 _ => ?_)
          obtain ⟨hS253, ht254⟩ := ht247
          refine sq (opk_val hA251 rfl (r_addI (hA251.get rfl) rfl hS253) fun a252 hA252 _ => ?_)
          refine sq (opk_val hA252 rfl (r_assign (hA252.get rfl)) fun a255 hA255 _ => ?_)
          refine sq_end ?_
          have hA256 := hA255.keep [(0, Sl.v l_1), (3, .int .i64 (i_14 + 1))] ⟨rfl, rfl, trivial⟩
          have ht257 := ht254 w237    hC244
          have hA258 := hA256.keep [(0, Sl.v l_1), (3, .int .i64 (i_14 + 1))] ⟨rfl, rfl, trivial⟩
          exact then_normal ⟨(i_14 + 1, w237), ⟨hA258, rfl, ht257.1⟩, ht257.2⟩
    · have ht146 := ht138.2 (of_decide_eq_false hc)
      clear hc
      refine wp_exit ?_
      refine then_exit ?_
      refine then_exit ?_
      refine block_hit ?_
      have hA259 := hA144.keep [] trivial
      refine then_normal ?_
      refine wp_seq ?_
      refine wp_region_lit ?_
      refine sq (opk_val hA259 rfl (r_assign rfl) fun a260 hA260 _ => ?_)
      refine sq_end ?_
      have hA261 := hA260.keep [(2, .bool true)] ⟨rfl, trivial⟩
      refine then_normal ?_
      refine wp_ret ?_
      exact res_all (vs := [.bool true]) rfl hA261 ⟨res_of_tmp hA261 rfl, trivial⟩ ht146

end Go.Proofs.Ytpacegmmbabhjaa
