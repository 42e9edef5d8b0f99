/-
  PRINTED BY PROGRAM: for each function its condition (vc), and that this suffices (ok).
-/
import Derived.Test.YtpacegmmbabhjaaGT
namespace Go.Proofs.Ytpacegmmbabhjaa
open Go.RowKit
set_option linter.unusedVariables false

/-- The condition of topiary/tree.Compare. -/
def tree_Compare.vc (a_1_Kind : Int) (a_1_Name : Str) (a_1_Text : Str) (a_1_Attrs : Sl) (a_1_Kids : Sl) (b_2_Kind : Int) (b_2_Name : Str) (b_2_Text : Str) (b_2_Attrs : Sl) (b_2_Kids : Sl) (R : Value → World → Prop) (w : World) : Prop :=
∀ (w24 : World) (B_3 : Nat) (B_11 : Nat), New w B_3 w24 → New w B_11 w24 → B_3 ≠ B_11 → Chg [] w w24 →
∃ (r_36 : Int), (∀ w' : World, Ext w24 w' → Calls Try.prog 41 #[.int .i64 a_1_Kind, .int .i64 b_2_Kind] w' (Ret fun v w'' => Ext w' w'' ∧ v = .int .i64 r_36)) ∧
∃ (r_43 : Int), (∀ w' : World, Ext w24 w' → Calls Try.prog 42 #[.string (Bs a_1_Name), .string (Bs b_2_Name)] w' (Ret fun v w'' => Ext w' w'' ∧ v = .int .i64 r_43)) ∧
∃ (r_50 : Int), (∀ w' : World, Ext w24 w' → Calls Try.prog 42 #[.string (Bs a_1_Text), .string (Bs b_2_Text)] w' (Ret fun v w'' => Ext w' w'' ∧ v = .int .i64 r_50)) ∧
∃ (r_64 : Int), (∀ B_56 : Nat, ∀ w' : World, Ext w24 w' → w24.heap.size ≤ B_56 → Box w' B_56 3 [.int .i64 r_36, .int .i64 r_43, .int .i64 r_50] → Calls Try.prog 40 #[Sl.v (Sl.mk (some ⟨B_56, 0, none⟩) 3 3)] w' (Ret fun v w'' => Ext w' w'' ∧ v = .int .i64 r_64)) ∧
∀ (w69 : World), Chg [] w24 w69 →
∃ (J_85 : Int → Int → World → Prop) (mu_86 : Int → Int → World → Nat),
J_85 r_64 0 w69 ∧
(∀ (x_82 : Int) (i_83 : Int) (w84 : World), J_85 x_82 i_83 w84 →
((((x_82 = 0) ∧ (i_83 < (a_1_Attrs.n : Int))) ∧ (i_83 < (b_2_Attrs.n : Int))) →
∀ (w228 : World), Chg [] w84 w228 →
∃ p_237 : Addr, (((0 : Int) ≤ i_83 ∧ i_83 < (a_1_Attrs.n : Int)) ∧ a_1_Attrs.a = some p_237) ∧
∃ (x_242 : Str), (w228.cell? ((p_237.add (i_83.toNat * 2)).add 0) = some (.string (Bs x_242))) ∧
∃ p_248 : Addr, (((0 : Int) ≤ i_83 ∧ i_83 < (b_2_Attrs.n : Int)) ∧ b_2_Attrs.a = some p_248) ∧
∃ (x_253 : Str), (w228.cell? ((p_248.add (i_83.toNat * 2)).add 0) = some (.string (Bs x_253))) ∧
∃ (r_258 : Int), (∀ w' : World, Ext w228 w' → Calls Try.prog 42 #[.string (Bs x_242), .string (Bs x_253)] w' (Ret fun v w'' => Ext w' w'' ∧ v = .int .i64 r_258)) ∧
∃ p_264 : Addr, (((0 : Int) ≤ i_83 ∧ i_83 < (a_1_Attrs.n : Int)) ∧ a_1_Attrs.a = some p_264) ∧
∃ (x_269 : Str), (w228.cell? ((p_264.add (i_83.toNat * 2)).add 1) = some (.string (Bs x_269))) ∧
∃ p_275 : Addr, (((0 : Int) ≤ i_83 ∧ i_83 < (b_2_Attrs.n : Int)) ∧ b_2_Attrs.a = some p_275) ∧
∃ (x_280 : Str), (w228.cell? ((p_275.add (i_83.toNat * 2)).add 1) = some (.string (Bs x_280))) ∧
∃ (r_285 : Int), (∀ w' : World, Ext w228 w' → Calls Try.prog 42 #[.string (Bs x_269), .string (Bs x_280)] w' (Ret fun v w'' => Ext w' w'' ∧ v = .int .i64 r_285)) ∧
∃ (r_298 : Int), (∀ B_290 : Nat, ∀ w' : World, Ext w228 w' → w228.heap.size ≤ B_290 → Box w' B_290 3 [.int .i64 r_258, .int .i64 r_285] → Calls Try.prog 40 #[Sl.v (Sl.mk (some ⟨B_290, 0, none⟩) 2 2)] w' (Ret fun v w'' => Ext w' w'' ∧ v = .int .i64 r_298)) ∧
(I64 (i_83 + 1)) ∧
∀ (w303 : World), Chg [] w228 w303 →
J_85 r_298 (i_83 + 1) w303 ∧ mu_86 r_298 (i_83 + 1) w303 < mu_86 x_82 i_83 w84) ∧
((((¬ (x_82 = 0)) ∨ (¬ (i_83 < (a_1_Attrs.n : Int)))) ∨ (¬ (i_83 < (b_2_Attrs.n : Int)))) →
CallK Try.prog 41 #[.int .i64 (a_1_Attrs.n : Int), .int .i64 (b_2_Attrs.n : Int)] w84 [B_3, B_11] (fun v w332 => ∃ (r_330 : Int), v = .int .i64 r_330 ∧
∀ (w341 : World) (B_340 : Nat), New w332 B_340 w341 → Chg [] w332 w341 →
∀ (_ : Box w341 B_340 3 [.int .i64 x_82, .int .i64 r_330]),
CallK Try.prog 40 #[Sl.v (Sl.mk (some ⟨B_340, 0, none⟩) 2 2)] w341 [B_3, B_11] (fun v w356 => ∃ (r_354 : Int), v = .int .i64 r_354 ∧
∃ (J_371 : Int → Int → World → Prop) (mu_372 : Int → Int → World → Nat),
J_371 r_354 0 w356 ∧
(∀ (x_368 : Int) (i_369 : Int) (w370 : World), J_371 x_368 i_369 w370 →
((((x_368 = 0) ∧ (i_369 < (a_1_Kids.n : Int))) ∧ (i_369 < (b_2_Kids.n : Int))) →
∀ (w471 : World), Chg [] w370 w471 →
∃ p_480 : Addr, (((0 : Int) ≤ i_369 ∧ i_369 < (a_1_Kids.n : Int)) ∧ a_1_Kids.a = some p_480) ∧
∃ (x_484_Kind : Int) (x_484_Name : Str) (x_484_Text : Str) (x_484_Attrs : Sl) (x_484_Kids : Sl), (Cells w471 (p_480.add (i_369.toNat * 5)) [.int .i64 x_484_Kind, .string (Bs x_484_Name), .string (Bs x_484_Text), Sl.v x_484_Attrs, Sl.v x_484_Kids]) ∧
∃ p_490 : Addr, (((0 : Int) ≤ i_369 ∧ i_369 < (b_2_Kids.n : Int)) ∧ b_2_Kids.a = some p_490) ∧
∃ (x_494_Kind : Int) (x_494_Name : Str) (x_494_Text : Str) (x_494_Attrs : Sl) (x_494_Kids : Sl), (Cells w471 (p_490.add (i_369.toNat * 5)) [.int .i64 x_494_Kind, .string (Bs x_494_Name), .string (Bs x_494_Text), Sl.v x_494_Attrs, Sl.v x_494_Kids]) ∧
∃ (r_499 : Int), (∀ w' : World, Ext w471 w' → Calls Try.prog 24 #[.agg #[.int .i64 x_484_Kind, .string (Bs x_484_Name), .string (Bs x_484_Text), Sl.v x_484_Attrs, Sl.v x_484_Kids], .agg #[.int .i64 x_494_Kind, .string (Bs x_494_Name), .string (Bs x_494_Text), Sl.v x_494_Attrs, Sl.v x_494_Kids]] w' (Ret fun v w'' => Ext w' w'' ∧ v = .int .i64 r_499)) ∧
(I64 (i_369 + 1)) ∧
∀ (w504 : World), Chg [] w471 w504 →
J_371 r_499 (i_369 + 1) w504 ∧ mu_372 r_499 (i_369 + 1) w504 < mu_372 x_368 i_369 w370) ∧
((((¬ (x_368 = 0)) ∨ (¬ (i_369 < (a_1_Kids.n : Int)))) ∨ (¬ (i_369 < (b_2_Kids.n : Int)))) →
CallK Try.prog 41 #[.int .i64 (a_1_Kids.n : Int), .int .i64 (b_2_Kids.n : Int)] w370 [B_3, B_11] (fun v w533 => ∃ (r_531 : Int), v = .int .i64 r_531 ∧
∀ (w542 : World) (B_541 : Nat), New w533 B_541 w542 → Chg [] w533 w542 →
∀ (_ : Box w542 B_541 3 [.int .i64 x_368, .int .i64 r_531]),
CallK Try.prog 40 #[Sl.v (Sl.mk (some ⟨B_541, 0, none⟩) 2 2)] w542 [B_3, B_11] (fun v w557 => ∃ (r_555 : Int), v = .int .i64 r_555 ∧
R (.int .i64 r_555) w557))))))))
set_option maxHeartbeats 1000000 in
set_option maxRecDepth 10000 in
theorem tree_Compare.ok (a_1_Kind : Int) (a_1_Name : Str) (a_1_Text : Str) (a_1_Attrs : Sl) (a_1_Kids : Sl) (b_2_Kind : Int) (b_2_Name : Str) (b_2_Text : Str) (b_2_Attrs : Sl) (b_2_Kids : Sl) {R : Value → World → Prop} {w : World} (ht0 : tree_Compare.vc a_1_Kind a_1_Name a_1_Text a_1_Attrs a_1_Kids b_2_Kind b_2_Name b_2_Text b_2_Attrs b_2_Kids R w) : Calls Try.prog 24 #[.agg #[.int .i64 a_1_Kind, .string (Bs a_1_Name), .string (Bs a_1_Text), Sl.v a_1_Attrs, Sl.v a_1_Kids], .agg #[.int .i64 b_2_Kind, .string (Bs b_2_Name), .string (Bs b_2_Text), Sl.v b_2_Attrs, Sl.v b_2_Kids]] w (Ret R) := by
  refine enter [.agg #[.int .i64 a_1_Kind, .string (Bs a_1_Name), .string (Bs a_1_Text), Sl.v a_1_Attrs, Sl.v a_1_Kids], .agg #[.int .i64 b_2_Kind, .string (Bs b_2_Name), .string (Bs b_2_Text), Sl.v b_2_Attrs, Sl.v b_2_Kids]] Try.func24 rfl Try.ntmps24 rfl ?_
  intro a0 hA0
  unfold tree_Compare.vc at ht0
  refine wp_seq ?_
  refine wp_region_lit ?_
  refine sq (opk_new (fun B => .pointer (some ⟨B, 0, none⟩)) hA0 rfl (r_box (cs := [.int .i64 a_1_Kind, .string (Bs a_1_Name), .string (Bs a_1_Text), Sl.v a_1_Attrs, Sl.v a_1_Kids]) (hA0.get rfl) rfl) fun a5 w4 B_3 hE6 hN7 hB8 hA5 _ => ?_)
  have hN9 : New w B_3 w4 := hN7
  have hC10 : Chg [] w w4 := hE6
  refine sq (opk_new (fun B => .pointer (some ⟨B, 0, none⟩)) hA5 rfl (r_box (cs := [.int .i64 b_2_Kind, .string (Bs b_2_Name), .string (Bs b_2_Text), Sl.v b_2_Attrs, Sl.v b_2_Kids]) (hA5.get rfl) rfl) fun a13 w12 B_11 hE14 hN15 hB16 hA13 _ => ?_)
  have hne17 : B_3 ≠ B_11 := Nat.ne_of_lt (Nat.lt_of_lt_of_le hB8.lt hN15.ge)
  have hN18 := New.of hC10 hN15
  have hB19 := hB8.ext hE14
  have hC20 := hC10.more hE14
  have hN21 := hN9.up hE14.size
  refine sq (opk_val hA13 rfl (r_assign rfl) fun a22 hA22 _ => ?_)
  refine sq_end ?_
  have hA23 := hA22.keep [(2, .pointer (some (⟨B_3, 0, none⟩ : Addr))), (3, .pointer (some (⟨B_11, 0, none⟩ : Addr)))] ⟨rfl, rfl, trivial⟩
  refine then_normal ?_
  refine wp_seq ?_
  refine draw' (by kernel_rfl) fun w24 hE25 => ?_
  have hB26 := hB19.ext hE25
  have hB27 := hB16.ext hE25
  have hC28 := hC20.more hE25
  have hN29 := hN21.up hE25.size
  have hN30 := hN18.up hE25.size
  have ht31 := ht0 w24 B_3 B_11 hN29 hN30 hne17 hC28
  obtain ⟨r_36, hc37, ht38⟩ := ht31
  obtain ⟨r_43, hc44, ht45⟩ := ht38
  obtain ⟨r_50, hc51, ht52⟩ := ht45
  obtain ⟨r_64, hc65, ht66⟩ := ht52
  refine par (D := [[], [0], [], [2], [0, 1, 2, 3], [], [5], [], [7], [0, 1, 2, 3, 4, 5, 6, 7, 8], [], [10], [], [12], [0, 1, 2, 3, 4, 5, 6, 7, 8, 9, 10, 11, 12, 13], [0, 1, 2, 3, 4, 5, 6, 7, 8, 9, 10, 11, 12, 13, 14], [0, 1, 2, 3, 4, 5, 6, 7, 8, 9, 10, 11, 12, 13, 14, 15], [0, 1, 2, 3, 4, 5, 6, 7, 8, 9, 10, 11, 12, 13, 14, 15, 16]]) (S := [0, 1, 2, 3, 4, 5, 6, 7, 8, 9, 10, 11, 12, 13, 14, 15, 16, 17]) (F := []) (V := VL [(0, fun v _ => v = .pointer (some (⟨B_3, 0, none⟩ : Addr))), (1, fun v _ => v = .int .i64 a_1_Kind), (2, fun v _ => v = .pointer (some (⟨B_11, 0, none⟩ : Addr))), (3, fun v _ => v = .int .i64 b_2_Kind), (4, fun v _ => v = .int .i64 r_36), (5, fun v _ => v = .pointer (some (⟨B_3, 1, none⟩ : Addr))), (6, fun v _ => v = .string (Bs a_1_Name)), (7, fun v _ => v = .pointer (some (⟨B_11, 1, none⟩ : Addr))), (8, fun v _ => v = .string (Bs b_2_Name)), (9, fun v _ => v = .int .i64 r_43), (10, fun v _ => v = .pointer (some (⟨B_3, 2, none⟩ : Addr))), (11, fun v _ => v = .string (Bs a_1_Text)), (12, fun v _ => v = .pointer (some (⟨B_11, 2, none⟩ : Addr))), (13, fun v _ => v = .string (Bs b_2_Text)), (14, fun v _ => v = .int .i64 r_50), (15, fun v w' => ∃ B_56 : Nat, w24.heap.size ≤ B_56 ∧ Box w' B_56 3 [.int .i64 r_36, .int .i64 r_43, .int .i64 r_50] ∧ v = Sl.v (Sl.mk (some ⟨B_56, 0, none⟩) 3 3)), (16, fun v _ => v = .int .i64 r_64), (17, fun v _ => v = .int .i64 r_64)]) hA23 (by kernel_rfl) ⟨fun _ _ _ _ h => by first | exact h | (change _ = _ at h; change _ = _; exact h), fun _ _ _ _ h => by first | exact h | (change _ = _ at h; change _ = _; exact h), fun _ _ _ _ h => by first | exact h | (change _ = _ at h; change _ = _; exact h), fun _ _ _ _ h => by first | exact h | (change _ = _ at h; change _ = _; exact h), fun _ _ _ _ h => by first | exact h | (change _ = _ at h; change _ = _; exact h), fun _ _ _ _ h => by first | exact h | (change _ = _ at h; change _ = _; exact h), fun _ _ _ _ h => by first | exact h | (change _ = _ at h; change _ = _; exact h), fun _ _ _ _ h => by first | exact h | (change _ = _ at h; change _ = _; exact h), fun _ _ _ _ h => by first | exact h | (change _ = _ at h; change _ = _; exact h), fun _ _ _ _ h => by first | exact h | (change _ = _ at h; change _ = _; exact h), fun _ _ _ _ h => by first | exact h | (change _ = _ at h; change _ = _; exact h), fun _ _ _ _ h => by first | exact h | (change _ = _ at h; change _ = _; exact h), fun _ _ _ _ h => by first | exact h | (change _ = _ at h; change _ = _; exact h), fun _ _ _ _ h => by first | exact h | (change _ = _ at h; change _ = _; exact h), fun _ _ _ _ h => by first | exact h | (change _ = _ at h; change _ = _; exact h), fun _ _ _ hE ⟨B_56, h0_, h1_, e⟩ => ⟨B_56, h0_, (h1_.ext hE), e⟩, fun _ _ _ _ h => by first | exact h | (change _ = _ at h; change _ = _; exact h), fun _ _ _ _ h => by first | exact h | (change _ = _ at h; change _ = _; exact h), trivial⟩ ⟨?_, ?_, ?_, ?_, ?_, ?_, ?_, ?_, ?_, ?_, ?_, ?_, ?_, ?_, ?_, ?_, ?_, ?_, trivial⟩ ?_
  · intro a w hT
    have hAp := hT.ag hA23 [(2, .pointer (some (⟨B_3, 0, none⟩ : Addr)))] ⟨rfl, trivial⟩ (by kernel_rfl)
    exact opk_val hAp rfl (r_fieldAddr (hAp.get rfl) Try.underlying26 rfl ti_3 (by decide)) fun _ _ e => ⟨_, e, Chg.refl _ _, fun _ => Eq.refl _⟩
  · intro a w hT
    have hAp := hT.ag hA23 [] trivial (by kernel_rfl)
    have e32 : a.tmps.getD 8 undef = .pointer (some (⟨B_3, 0, none⟩ : Addr)) := hT.vals 0 rfl 8 rfl
    have hAp := hAp.add e32
    exact opk_val hAp rfl (r_load1 Try.underlying3 rfl (hAp.get rfl) ((hB26.ext hT.chg).cell 0 _ rfl)) fun _ _ e => ⟨_, e, Chg.refl _ _, fun _ => Eq.refl _⟩
  · intro a w hT
    have hAp := hT.ag hA23 [(3, .pointer (some (⟨B_11, 0, none⟩ : Addr)))] ⟨rfl, trivial⟩ (by kernel_rfl)
    exact opk_val hAp rfl (r_fieldAddr (hAp.get rfl) Try.underlying26 rfl ti_3 (by decide)) fun _ _ e => ⟨_, e, Chg.refl _ _, fun _ => Eq.refl _⟩
  · intro a w hT
    have hAp := hT.ag hA23 [] trivial (by kernel_rfl)
    have e33 : a.tmps.getD 10 undef = .pointer (some (⟨B_11, 0, none⟩ : Addr)) := hT.vals 2 rfl 10 rfl
    have hAp := hAp.add e33
    exact opk_val hAp rfl (r_load1 Try.underlying3 rfl (hAp.get rfl) ((hB27.ext hT.chg).cell 0 _ rfl)) fun _ _ e => ⟨_, e, Chg.refl _ _, fun _ => Eq.refl _⟩
  · intro a w hT
    have hAp := hT.ag hA23 [] trivial (by kernel_rfl)
    have e34 : a.tmps.getD 9 undef = .int .i64 a_1_Kind := hT.vals 1 rfl 9 rfl
    have hAp := hAp.add e34
    have e35 : a.tmps.getD 11 undef = .int .i64 b_2_Kind := hT.vals 3 rfl 11 rfl
    have hAp := hAp.add e35
    exact opk_callX hAp rfl (r_call (args := #[.int .i64 a_1_Kind, .int .i64 b_2_Kind]) Try.func41 (by decide) rfl (map_arr (ml_cons (hAp.get rfl) (ml_cons (hAp.get rfl) ml_nil))) rfl) (hc37 w hT.chg) fun _ _ _ _ e hR => ⟨_, e, hR.1, fun _ => hR.2⟩
  · intro a w hT
    have hAp := hT.ag hA23 [(2, .pointer (some (⟨B_3, 0, none⟩ : Addr)))] ⟨rfl, trivial⟩ (by kernel_rfl)
    exact opk_val hAp rfl (r_fieldAddr (hAp.get rfl) Try.underlying26 rfl ti_9 (by decide)) fun _ _ e => ⟨_, e, Chg.refl _ _, fun _ => Eq.refl _⟩
  · intro a w hT
    have hAp := hT.ag hA23 [] trivial (by kernel_rfl)
    have e39 : a.tmps.getD 13 undef = .pointer (some (⟨B_3, 1, none⟩ : Addr)) := hT.vals 5 rfl 13 rfl
    have hAp := hAp.add e39
    exact opk_val hAp rfl (r_load1 Try.underlying9 rfl (hAp.get rfl) ((hB26.ext hT.chg).cell 1 _ rfl)) fun _ _ e => ⟨_, e, Chg.refl _ _, fun _ => Eq.refl _⟩
  · intro a w hT
    have hAp := hT.ag hA23 [(3, .pointer (some (⟨B_11, 0, none⟩ : Addr)))] ⟨rfl, trivial⟩ (by kernel_rfl)
    exact opk_val hAp rfl (r_fieldAddr (hAp.get rfl) Try.underlying26 rfl ti_9 (by decide)) fun _ _ e => ⟨_, e, Chg.refl _ _, fun _ => Eq.refl _⟩
  · intro a w hT
    have hAp := hT.ag hA23 [] trivial (by kernel_rfl)
    have e40 : a.tmps.getD 15 undef = .pointer (some (⟨B_11, 1, none⟩ : Addr)) := hT.vals 7 rfl 15 rfl
    have hAp := hAp.add e40
    exact opk_val hAp rfl (r_load1 Try.underlying9 rfl (hAp.get rfl) ((hB27.ext hT.chg).cell 1 _ rfl)) fun _ _ e => ⟨_, e, Chg.refl _ _, fun _ => Eq.refl _⟩
  · intro a w hT
    have hAp := hT.ag hA23 [] trivial (by kernel_rfl)
    have e41 : a.tmps.getD 14 undef = .string (Bs a_1_Name) := hT.vals 6 rfl 14 rfl
    have hAp := hAp.add e41
    have e42 : a.tmps.getD 16 undef = .string (Bs b_2_Name) := hT.vals 8 rfl 16 rfl
    have hAp := hAp.add e42
    exact opk_callX hAp rfl (r_call (args := #[.string (Bs a_1_Name), .string (Bs b_2_Name)]) Try.func42 (by decide) rfl (map_arr (ml_cons (hAp.get rfl) (ml_cons (hAp.get rfl) ml_nil))) rfl) (hc44 w hT.chg) fun _ _ _ _ e hR => ⟨_, e, hR.1, fun _ => hR.2⟩
  · intro a w hT
    have hAp := hT.ag hA23 [(2, .pointer (some (⟨B_3, 0, none⟩ : Addr)))] ⟨rfl, trivial⟩ (by kernel_rfl)
    exact opk_val hAp rfl (r_fieldAddr (hAp.get rfl) Try.underlying26 rfl ti_9 (by decide)) fun _ _ e => ⟨_, e, Chg.refl _ _, fun _ => Eq.refl _⟩
  · intro a w hT
    have hAp := hT.ag hA23 [] trivial (by kernel_rfl)
    have e46 : a.tmps.getD 18 undef = .pointer (some (⟨B_3, 2, none⟩ : Addr)) := hT.vals 10 rfl 18 rfl
    have hAp := hAp.add e46
    exact opk_val hAp rfl (r_load1 Try.underlying9 rfl (hAp.get rfl) ((hB26.ext hT.chg).cell 2 _ rfl)) fun _ _ e => ⟨_, e, Chg.refl _ _, fun _ => Eq.refl _⟩
  · intro a w hT
    have hAp := hT.ag hA23 [(3, .pointer (some (⟨B_11, 0, none⟩ : Addr)))] ⟨rfl, trivial⟩ (by kernel_rfl)
    exact opk_val hAp rfl (r_fieldAddr (hAp.get rfl) Try.underlying26 rfl ti_9 (by decide)) fun _ _ e => ⟨_, e, Chg.refl _ _, fun _ => Eq.refl _⟩
  · intro a w hT
    have hAp := hT.ag hA23 [] trivial (by kernel_rfl)
    have e47 : a.tmps.getD 20 undef = .pointer (some (⟨B_11, 2, none⟩ : Addr)) := hT.vals 12 rfl 20 rfl
    have hAp := hAp.add e47
    exact opk_val hAp rfl (r_load1 Try.underlying9 rfl (hAp.get rfl) ((hB27.ext hT.chg).cell 2 _ rfl)) fun _ _ e => ⟨_, e, Chg.refl _ _, fun _ => Eq.refl _⟩
  · intro a w hT
    have hAp := hT.ag hA23 [] trivial (by kernel_rfl)
    have e48 : a.tmps.getD 19 undef = .string (Bs a_1_Text) := hT.vals 11 rfl 19 rfl
    have hAp := hAp.add e48
    have e49 : a.tmps.getD 21 undef = .string (Bs b_2_Text) := hT.vals 13 rfl 21 rfl
    have hAp := hAp.add e49
    exact opk_callX hAp rfl (r_call (args := #[.string (Bs a_1_Text), .string (Bs b_2_Text)]) Try.func42 (by decide) rfl (map_arr (ml_cons (hAp.get rfl) (ml_cons (hAp.get rfl) ml_nil))) rfl) (hc51 w hT.chg) fun _ _ _ _ e hR => ⟨_, e, hR.1, fun _ => hR.2⟩
  · intro a w hT
    have hAp := hT.ag hA23 [] trivial (by kernel_rfl)
    have e53 : a.tmps.getD 12 undef = .int .i64 r_36 := hT.vals 4 rfl 12 rfl
    have hAp := hAp.add e53
    have e54 : a.tmps.getD 17 undef = .int .i64 r_43 := hT.vals 9 rfl 17 rfl
    have hAp := hAp.add e54
    have e55 : a.tmps.getD 22 undef = .int .i64 r_50 := hT.vals 14 rfl 22 rfl
    have hAp := hAp.add e55
    exact opk_new (fun B => .slice (some ⟨B, 0, none⟩) 3 3) hAp rfl (r_buildSlice (vs := #[(0, .int .i64 r_36), (1, .int .i64 r_43), (2, .int .i64 r_50)]) (cs := [.int .i64 r_36, .int .i64 r_43, .int .i64 r_50]) (map_arr2 (ml2_cons (hAp.get rfl) (ml2_cons (hAp.get rfl) (ml2_cons (hAp.get rfl) (ml2_nil))))) Try.underlying22 ti_3 rfl rfl (by kernel_rfl)) fun _ w57 B_56 hE58 hN59 hB60 _ e => ⟨_, e, hE58, fun _ => ⟨B_56, Nat.le_trans hT.chg.size hN59.ge, hB60, rfl⟩⟩
  · intro a w hT
    have hAp := hT.ag hA23 [] trivial (by kernel_rfl)
    obtain ⟨B_56, hf62, hf63, e61⟩ := hT.vals 15 rfl 23 rfl
    have hAp := hAp.add e61
    exact opk_callX hAp rfl (r_call (args := #[Sl.v (Sl.mk (some ⟨B_56, 0, none⟩) 3 3)]) Try.func40 (by decide) rfl (map_arr (ml_cons (hAp.get rfl) ml_nil)) rfl) (hc65 B_56 w hT.chg hf62 hf63) fun _ _ _ _ e hR => ⟨_, e, hR.1, fun _ => hR.2⟩
  · intro a w hT
    have hAp := hT.ag hA23 [] trivial (by kernel_rfl)
    have e67 : a.tmps.getD 24 undef = .int .i64 r_64 := hT.vals 16 rfl 24 rfl
    have hAp := hAp.add e67
    exact opk_val hAp rfl (r_assign (hAp.get rfl)) fun _ _ e => ⟨_, e, Chg.refl _ _, fun _ => Eq.refl _⟩
  · intro a68 w69 hE70 hag71 hv72
    have hA68 := hag71 [(2, .pointer (some (⟨B_3, 0, none⟩ : Addr))), (3, .pointer (some (⟨B_11, 0, none⟩ : Addr)))] ⟨rfl, rfl, trivial⟩ (by kernel_rfl)
    have e74 : a68.tmps.getD 5 undef = .int .i64 r_64 := hv72 17 rfl 5 rfl
    have hA75 := hA68.add e74
    have hB76 := hB26.ext hE70
    have hB77 := hB27.ext hE70
    have hC78 : Chg [] w24 w69 := hE70
    refine PR_end (by kernel_rfl) ?_
    have hA79 := hA75.keep [(2, .pointer (some (⟨B_3, 0, none⟩ : Addr))), (3, .pointer (some (⟨B_11, 0, none⟩ : Addr))), (5, .int .i64 r_64)] ⟨rfl, rfl, rfl, trivial⟩
    refine then_normal ?_
    refine wp_seq ?_
    refine wp_seq ?_
    refine wp_region_lit ?_
    refine sq (opk_val hA79 rfl (r_assign rfl) fun a80 hA80 _ => ?_)
    refine sq_end ?_
    have hA81 := hA80.keep [(2, .pointer (some (⟨B_3, 0, none⟩ : Addr))), (3, .pointer (some (⟨B_11, 0, none⟩ : Addr))), (5, .int .i64 r_64), (6, .int .i64 0)] ⟨rfl, rfl, rfl, rfl, trivial⟩
    refine then_normal ?_
    refine wp_block ?_
    have ht201 := ht66 w69    hC78
    obtain ⟨J_85, mu_86, h0206, ht205⟩ := ht201
    refine wp_loop_st (σ := Int × Int × World) (fun s a w => Ag 120 a [(2, .pointer (some (⟨B_3, 0, none⟩ : Addr))), (3, .pointer (some (⟨B_11, 0, none⟩ : Addr))), (5, .int .i64 s.1), (6, .int .i64 s.2.1)] ∧ Box w B_3 26 [.int .i64 a_1_Kind, .string (Bs a_1_Name), .string (Bs a_1_Text), Sl.v a_1_Attrs, Sl.v a_1_Kids] ∧ Box w B_11 26 [.int .i64 b_2_Kind, .string (Bs b_2_Name), .string (Bs b_2_Text), Sl.v b_2_Attrs, Sl.v b_2_Kids] ∧ w = s.2.2 ∧ J_85 s.1 s.2.1 s.2.2) (fun s => mu_86 s.1 s.2.1 s.2.2) (r_64, 0, w69) ⟨hA81.keep [(2, .pointer (some (⟨B_3, 0, none⟩ : Addr))), (3, .pointer (some (⟨B_11, 0, none⟩ : Addr))), (5, .int .i64 r_64), (6, .int .i64 0)] ⟨rfl, rfl, rfl, rfl, trivial⟩, hB76, hB77, rfl, h0206⟩ ?_
    rintro ⟨x_82, i_83, w84⟩ a202 w_ ⟨hA202, hB203, hB204, hw_, hJ208⟩
    have hw_ : w84 = w_ := hw_.symm
    subst hw_
    have ht207 := ht205 x_82 i_83 _ hJ208
    refine wp_seq ?_
    refine wp_seq ?_
    refine wp_region_lit ?_
    refine sq (opk_val hA202 rfl (r_move (hA202.get rfl)) fun a209 hA209 _ => ?_)
    refine sq (opk_val hA209 rfl (r_eql (hA209.get rfl) rfl) fun a210 hA210 _ => ?_)
    refine sq (opk_val hA210 rfl (r_move (hA210.get rfl)) fun a211 hA211 _ => ?_)
    refine sq (opk_gval hA211 rfl rfl (g := true) (e := (decide (x_82 = 0))) rfl (fun hg => r_move (hA211.get rfl)) fun a212 hA212 _ => ?_)
    refine sq (opk_gval hA212 rfl rfl (g := true) (e := (decide (x_82 = 0))) rfl (fun hg => r_fieldAddr (hA212.get rfl) Try.underlying26 rfl ti_23 (by decide)) fun a213 hA213 _ => ?_)
    refine sq (opk_gval hA213 rfl rfl (g := true) (e := (decide (x_82 = 0))) rfl (fun hg => r_load1 Try.underlying23 rfl (cv_get (hA213.get rfl) hg) (hB203.cell 3 _ rfl)) fun a214 hA214 _ => ?_)
    refine sq (opk_gval hA214 rfl rfl (g := true) (e := (decide (x_82 = 0))) rfl (fun hg => r_len (cv_get (hA214.get rfl) hg) Try.underlying23) fun a215 hA215 _ => ?_)
    refine sq (opk_gval hA215 rfl rfl (g := true) (e := (decide (x_82 = 0))) rfl (fun hg => r_lss (cv_get (hA215.get rfl) hg) (cv_get (hA215.get rfl) hg)) fun a216 hA216 _ => ?_)
    refine sq (opk_val hA216 rfl (r_pick_and (g := (true && ((decide (x_82 = 0)) == true))) (hA216.get rfl) (hA216.get rfl) (fun he => g_mkt rfl he)) fun a217 hA217 _ => ?_)
    refine sq (opk_val hA217 rfl (r_move (hA217.get rfl)) fun a218 hA218 _ => ?_)
    refine sq (opk_gval hA218 rfl rfl (g := true) (e := ((decide (x_82 = 0)) && (decide (i_83 < (a_1_Attrs.n : Int))))) rfl (fun hg => r_move (hA218.get rfl)) fun a219 hA219 _ => ?_)
    refine sq (opk_gval hA219 rfl rfl (g := true) (e := ((decide (x_82 = 0)) && (decide (i_83 < (a_1_Attrs.n : Int))))) rfl (fun hg => r_fieldAddr (hA219.get rfl) Try.underlying26 rfl ti_23 (by decide)) fun a220 hA220 _ => ?_)
    refine sq (opk_gval hA220 rfl rfl (g := true) (e := ((decide (x_82 = 0)) && (decide (i_83 < (a_1_Attrs.n : Int))))) rfl (fun hg => r_load1 Try.underlying23 rfl (cv_get (hA220.get rfl) hg) (hB204.cell 3 _ rfl)) fun a221 hA221 _ => ?_)
    refine sq (opk_gval hA221 rfl rfl (g := true) (e := ((decide (x_82 = 0)) && (decide (i_83 < (a_1_Attrs.n : Int))))) rfl (fun hg => r_len (cv_get (hA221.get rfl) hg) Try.underlying23) fun a222 hA222 _ => ?_)
    refine sq (opk_gval hA222 rfl rfl (g := true) (e := ((decide (x_82 = 0)) && (decide (i_83 < (a_1_Attrs.n : Int))))) rfl (fun hg => r_lss (cv_get (hA222.get rfl) hg) (cv_get (hA222.get rfl) hg)) fun a223 hA223 _ => ?_)
    refine sq (opk_val hA223 rfl (r_pick_and (g := (true && (((decide (x_82 = 0)) && (decide (i_83 < (a_1_Attrs.n : Int)))) == true))) (hA223.get rfl) (hA223.get rfl) (fun he => g_mkt rfl he)) fun a224 hA224 _ => ?_)
    refine sq_end ?_
    have hA225 := hA224.keep [(2, .pointer (some (⟨B_3, 0, none⟩ : Addr))), (3, .pointer (some (⟨B_11, 0, none⟩ : Addr))), (5, .int .i64 x_82), (6, .int .i64 i_83), (40, .bool (((decide (x_82 = 0)) && (decide (i_83 < (a_1_Attrs.n : Int)))) && (decide (i_83 < (b_2_Attrs.n : Int)))))] ⟨rfl, rfl, rfl, rfl, rfl, trivial⟩
    refine then_normal ?_
    refine wp_cond_split (hA225.get rfl) (fun hc => ?_) (fun hc => ?_)
    · have ht226 := ht207.1 ⟨⟨(of_decide_eq_true (b_and_t (b_and_t hc).1).1), (of_decide_eq_true (b_and_t (b_and_t hc).1).2)⟩, (of_decide_eq_true (b_and_t hc).2)⟩
      clear hc
      refine wp_skip ?_
      refine then_normal ?_
      refine wp_seq ?_
      refine wp_block ?_
      refine draw' (by kernel_rfl) fun w228 hE229 => ?_
      have hB230 := hB203.ext hE229
      have hB231 := hB204.ext hE229
      have hC232 : Chg [] w84 w228 := hE229
      have ht233 := ht226 w228    hC232
      obtain ⟨p_237, hp238, ht239⟩ := ht233
      obtain ⟨x_242, hx243, ht244⟩ := ht239
      obtain ⟨p_248, hp249, ht250⟩ := ht244
      obtain ⟨x_253, hx254, ht255⟩ := ht250
      obtain ⟨r_258, hc259, ht260⟩ := ht255
      obtain ⟨p_264, hp265, ht266⟩ := ht260
      obtain ⟨x_269, hx270, ht271⟩ := ht266
      obtain ⟨p_275, hp276, ht277⟩ := ht271
      obtain ⟨x_280, hx281, ht282⟩ := ht277
      obtain ⟨r_285, hc286, ht287⟩ := ht282
      obtain ⟨r_298, hc299, ht300⟩ := ht287
      refine par (D := [[], [0], [], [0, 1, 2], [0, 1, 2, 3], [0, 1, 2, 3, 4], [], [6], [], [6, 7, 8], [6, 7, 8, 9], [6, 7, 8, 9, 10], [0, 1, 2, 3, 4, 5, 6, 7, 8, 9, 10, 11], [], [13], [], [13, 14, 15], [13, 14, 15, 16], [13, 14, 15, 16, 17], [], [19], [], [19, 20, 21], [19, 20, 21, 22], [19, 20, 21, 22, 23], [0, 1, 2, 3, 4, 5, 6, 7, 8, 9, 10, 11, 12, 13, 14, 15, 16, 17, 18, 19, 20, 21, 22, 23, 24], [0, 1, 2, 3, 4, 5, 6, 7, 8, 9, 10, 11, 12, 13, 14, 15, 16, 17, 18, 19, 20, 21, 22, 23, 24, 25], [0, 1, 2, 3, 4, 5, 6, 7, 8, 9, 10, 11, 12, 13, 14, 15, 16, 17, 18, 19, 20, 21, 22, 23, 24, 25, 26], [0, 1, 2, 3, 4, 5, 6, 7, 8, 9, 10, 11, 12, 13, 14, 15, 16, 17, 18, 19, 20, 21, 22, 23, 24, 25, 26, 27]]) (S := [0, 1, 2, 3, 4, 5, 6, 7, 8, 9, 10, 11, 12, 13, 14, 15, 16, 17, 18, 19, 20, 21, 22, 23, 24, 25, 26, 27, 28]) (F := []) (V := VL [(0, fun v _ => v = .pointer (some (⟨B_3, 3, none⟩ : Addr))), (1, fun v _ => v = Sl.v a_1_Attrs), (2, fun v _ => v = .int .i64 i_83), (3, fun v _ => v = .pointer (some (p_237.add (i_83.toNat * 2)))), (4, fun v _ => v = .pointer (some ((p_237.add (i_83.toNat * 2)).add 0))), (5, fun v _ => v = .string (Bs x_242)), (6, fun v _ => v = .pointer (some (⟨B_11, 3, none⟩ : Addr))), (7, fun v _ => v = Sl.v b_2_Attrs), (8, fun v _ => v = .int .i64 i_83), (9, fun v _ => v = .pointer (some (p_248.add (i_83.toNat * 2)))), (10, fun v _ => v = .pointer (some ((p_248.add (i_83.toNat * 2)).add 0))), (11, fun v _ => v = .string (Bs x_253)), (12, fun v _ => v = .int .i64 r_258), (13, fun v _ => v = .pointer (some (⟨B_3, 3, none⟩ : Addr))), (14, fun v _ => v = Sl.v a_1_Attrs), (15, fun v _ => v = .int .i64 i_83), (16, fun v _ => v = .pointer (some (p_264.add (i_83.toNat * 2)))), (17, fun v _ => v = .pointer (some ((p_264.add (i_83.toNat * 2)).add 1))), (18, fun v _ => v = .string (Bs x_269)), (19, fun v _ => v = .pointer (some (⟨B_11, 3, none⟩ : Addr))), (20, fun v _ => v = Sl.v b_2_Attrs), (21, fun v _ => v = .int .i64 i_83), (22, fun v _ => v = .pointer (some (p_275.add (i_83.toNat * 2)))), (23, fun v _ => v = .pointer (some ((p_275.add (i_83.toNat * 2)).add 1))), (24, fun v _ => v = .string (Bs x_280)), (25, fun v _ => v = .int .i64 r_285), (26, fun v w' => ∃ B_290 : Nat, w228.heap.size ≤ B_290 ∧ Box w' B_290 3 [.int .i64 r_258, .int .i64 r_285] ∧ v = Sl.v (Sl.mk (some ⟨B_290, 0, none⟩) 2 2)), (27, fun v _ => v = .int .i64 r_298), (28, fun v _ => v = .int .i64 r_298)]) hA225 (by kernel_rfl) ⟨fun _ _ _ _ h => by first | exact h | (change _ = _ at h; change _ = _; exact h), fun _ _ _ _ h => by first | exact h | (change _ = _ at h; change _ = _; exact h), fun _ _ _ _ h => by first | exact h | (change _ = _ at h; change _ = _; exact h), fun _ _ _ _ h => by first | exact h | (change _ = _ at h; change _ = _; exact h), fun _ _ _ _ h => by first | exact h | (change _ = _ at h; change _ = _; exact h), fun _ _ _ _ h => by first | exact h | (change _ = _ at h; change _ = _; exact h), fun _ _ _ _ h => by first | exact h | (change _ = _ at h; change _ = _; exact h), fun _ _ _ _ h => by first | exact h | (change _ = _ at h; change _ = _; exact h), fun _ _ _ _ h => by first | exact h | (change _ = _ at h; change _ = _; exact h), fun _ _ _ _ h => by first | exact h | (change _ = _ at h; change _ = _; exact h), fun _ _ _ _ h => by first | exact h | (change _ = _ at h; change _ = _; exact h), fun _ _ _ _ h => by first | exact h | (change _ = _ at h; change _ = _; exact h), fun _ _ _ _ h => by first | exact h | (change _ = _ at h; change _ = _; exact h), fun _ _ _ _ h => by first | exact h | (change _ = _ at h; change _ = _; exact h), fun _ _ _ _ h => by first | exact h | (change _ = _ at h; change _ = _; exact h), fun _ _ _ _ h => by first | exact h | (change _ = _ at h; change _ = _; exact h), fun _ _ _ _ h => by first | exact h | (change _ = _ at h; change _ = _; exact h), fun _ _ _ _ h => by first | exact h | (change _ = _ at h; change _ = _; exact h), fun _ _ _ _ h => by first | exact h | (change _ = _ at h; change _ = _; exact h), fun _ _ _ _ h => by first | exact h | (change _ = _ at h; change _ = _; exact h), fun _ _ _ _ h => by first | exact h | (change _ = _ at h; change _ = _; exact h), fun _ _ _ _ h => by first | exact h | (change _ = _ at h; change _ = _; exact h), fun _ _ _ _ h => by first | exact h | (change _ = _ at h; change _ = _; exact h), fun _ _ _ _ h => by first | exact h | (change _ = _ at h; change _ = _; exact h), fun _ _ _ _ h => by first | exact h | (change _ = _ at h; change _ = _; exact h), fun _ _ _ _ h => by first | exact h | (change _ = _ at h; change _ = _; exact h), fun _ _ _ hE ⟨B_290, h0_, h1_, e⟩ => ⟨B_290, h0_, (h1_.ext hE), e⟩, fun _ _ _ _ h => by first | exact h | (change _ = _ at h; change _ = _; exact h), fun _ _ _ _ h => by first | exact h | (change _ = _ at h; change _ = _; exact h), trivial⟩ ⟨?_, ?_, ?_, ?_, ?_, ?_, ?_, ?_, ?_, ?_, ?_, ?_, ?_, ?_, ?_, ?_, ?_, ?_, ?_, ?_, ?_, ?_, ?_, ?_, ?_, ?_, ?_, ?_, ?_, trivial⟩ ?_
      · intro a w hT
        have hAp := hT.ag hA225 [(2, .pointer (some (⟨B_3, 0, none⟩ : Addr)))] ⟨rfl, trivial⟩ (by kernel_rfl)
        exact opk_val hAp rfl (r_fieldAddr (hAp.get rfl) Try.underlying26 rfl ti_23 (by decide)) fun _ _ e => ⟨_, e, Chg.refl _ _, fun _ => Eq.refl _⟩
      · intro a w hT
        have hAp := hT.ag hA225 [] trivial (by kernel_rfl)
        have e234 : a.tmps.getD 43 undef = .pointer (some (⟨B_3, 3, none⟩ : Addr)) := hT.vals 0 rfl 43 rfl
        have hAp := hAp.add e234
        exact opk_val hAp rfl (r_load1 Try.underlying23 rfl (hAp.get rfl) ((hB230.ext hT.chg).cell 3 _ rfl)) fun _ _ e => ⟨_, e, Chg.refl _ _, fun _ => Eq.refl _⟩
      · intro a w hT
        have hAp := hT.ag hA225 [(6, .int .i64 i_83)] ⟨rfl, trivial⟩ (by kernel_rfl)
        exact opk_val hAp rfl (r_move (hAp.get rfl)) fun _ _ e => ⟨_, e, Chg.refl _ _, fun _ => Eq.refl _⟩
      · intro a w hT
        have hAp := hT.ag hA225 [] trivial (by kernel_rfl)
        have e235 : a.tmps.getD 44 undef = Sl.v a_1_Attrs := hT.vals 1 rfl 44 rfl
        have hAp := hAp.add e235
        have e236 : a.tmps.getD 45 undef = .int .i64 i_83 := hT.vals 2 rfl 45 rfl
        have hAp := hAp.add e236
        exact opk_val hAp rfl (r_indexAddr (hAp.get rfl) (hAp.get rfl) Try.underlying23 ti_33 hp238.1 hp238.2) fun _ _ e => ⟨_, e, Chg.refl _ _, fun _ => Eq.refl _⟩
      · intro a w hT
        have hAp := hT.ag hA225 [] trivial (by kernel_rfl)
        have e240 : a.tmps.getD 46 undef = .pointer (some (p_237.add (i_83.toNat * 2))) := hT.vals 3 rfl 46 rfl
        have hAp := hAp.add e240
        exact opk_val hAp rfl (r_fieldAddr (hAp.get rfl) Try.underlying33 rfl ti_9 (by decide)) fun _ _ e => ⟨_, e, Chg.refl _ _, fun _ => Eq.refl _⟩
      · intro a w hT
        have hAp := hT.ag hA225 [] trivial (by kernel_rfl)
        have e241 : a.tmps.getD 47 undef = .pointer (some ((p_237.add (i_83.toNat * 2)).add 0)) := hT.vals 4 rfl 47 rfl
        have hAp := hAp.add e241
        exact opk_val hAp rfl (r_load1 Try.underlying9 rfl (hAp.get rfl) (Ext.cell hT.chg hx243)) fun _ _ e => ⟨_, e, Chg.refl _ _, fun _ => Eq.refl _⟩
      · intro a w hT
        have hAp := hT.ag hA225 [(3, .pointer (some (⟨B_11, 0, none⟩ : Addr)))] ⟨rfl, trivial⟩ (by kernel_rfl)
        exact opk_val hAp rfl (r_fieldAddr (hAp.get rfl) Try.underlying26 rfl ti_23 (by decide)) fun _ _ e => ⟨_, e, Chg.refl _ _, fun _ => Eq.refl _⟩
      · intro a w hT
        have hAp := hT.ag hA225 [] trivial (by kernel_rfl)
        have e245 : a.tmps.getD 49 undef = .pointer (some (⟨B_11, 3, none⟩ : Addr)) := hT.vals 6 rfl 49 rfl
        have hAp := hAp.add e245
        exact opk_val hAp rfl (r_load1 Try.underlying23 rfl (hAp.get rfl) ((hB231.ext hT.chg).cell 3 _ rfl)) fun _ _ e => ⟨_, e, Chg.refl _ _, fun _ => Eq.refl _⟩
      · intro a w hT
        have hAp := hT.ag hA225 [(6, .int .i64 i_83)] ⟨rfl, trivial⟩ (by kernel_rfl)
        exact opk_val hAp rfl (r_move (hAp.get rfl)) fun _ _ e => ⟨_, e, Chg.refl _ _, fun _ => Eq.refl _⟩
      · intro a w hT
        have hAp := hT.ag hA225 [] trivial (by kernel_rfl)
        have e246 : a.tmps.getD 50 undef = Sl.v b_2_Attrs := hT.vals 7 rfl 50 rfl
        have hAp := hAp.add e246
        have e247 : a.tmps.getD 51 undef = .int .i64 i_83 := hT.vals 8 rfl 51 rfl
        have hAp := hAp.add e247
        exact opk_val hAp rfl (r_indexAddr (hAp.get rfl) (hAp.get rfl) Try.underlying23 ti_33 hp249.1 hp249.2) fun _ _ e => ⟨_, e, Chg.refl _ _, fun _ => Eq.refl _⟩
      · intro a w hT
        have hAp := hT.ag hA225 [] trivial (by kernel_rfl)
        have e251 : a.tmps.getD 52 undef = .pointer (some (p_248.add (i_83.toNat * 2))) := hT.vals 9 rfl 52 rfl
        have hAp := hAp.add e251
        exact opk_val hAp rfl (r_fieldAddr (hAp.get rfl) Try.underlying33 rfl ti_9 (by decide)) fun _ _ e => ⟨_, e, Chg.refl _ _, fun _ => Eq.refl _⟩
      · intro a w hT
        have hAp := hT.ag hA225 [] trivial (by kernel_rfl)
        have e252 : a.tmps.getD 53 undef = .pointer (some ((p_248.add (i_83.toNat * 2)).add 0)) := hT.vals 10 rfl 53 rfl
        have hAp := hAp.add e252
        exact opk_val hAp rfl (r_load1 Try.underlying9 rfl (hAp.get rfl) (Ext.cell hT.chg hx254)) fun _ _ e => ⟨_, e, Chg.refl _ _, fun _ => Eq.refl _⟩
      · intro a w hT
        have hAp := hT.ag hA225 [] trivial (by kernel_rfl)
        have e256 : a.tmps.getD 48 undef = .string (Bs x_242) := hT.vals 5 rfl 48 rfl
        have hAp := hAp.add e256
        have e257 : a.tmps.getD 54 undef = .string (Bs x_253) := hT.vals 11 rfl 54 rfl
        have hAp := hAp.add e257
        exact opk_callX hAp rfl (r_call (args := #[.string (Bs x_242), .string (Bs x_253)]) Try.func42 (by decide) rfl (map_arr (ml_cons (hAp.get rfl) (ml_cons (hAp.get rfl) ml_nil))) rfl) (hc259 w hT.chg) fun _ _ _ _ e hR => ⟨_, e, hR.1, fun _ => hR.2⟩
      · intro a w hT
        have hAp := hT.ag hA225 [(2, .pointer (some (⟨B_3, 0, none⟩ : Addr)))] ⟨rfl, trivial⟩ (by kernel_rfl)
        exact opk_val hAp rfl (r_fieldAddr (hAp.get rfl) Try.underlying26 rfl ti_23 (by decide)) fun _ _ e => ⟨_, e, Chg.refl _ _, fun _ => Eq.refl _⟩
      · intro a w hT
        have hAp := hT.ag hA225 [] trivial (by kernel_rfl)
        have e261 : a.tmps.getD 56 undef = .pointer (some (⟨B_3, 3, none⟩ : Addr)) := hT.vals 13 rfl 56 rfl
        have hAp := hAp.add e261
        exact opk_val hAp rfl (r_load1 Try.underlying23 rfl (hAp.get rfl) ((hB230.ext hT.chg).cell 3 _ rfl)) fun _ _ e => ⟨_, e, Chg.refl _ _, fun _ => Eq.refl _⟩
      · intro a w hT
        have hAp := hT.ag hA225 [(6, .int .i64 i_83)] ⟨rfl, trivial⟩ (by kernel_rfl)
        exact opk_val hAp rfl (r_move (hAp.get rfl)) fun _ _ e => ⟨_, e, Chg.refl _ _, fun _ => Eq.refl _⟩
      · intro a w hT
        have hAp := hT.ag hA225 [] trivial (by kernel_rfl)
        have e262 : a.tmps.getD 57 undef = Sl.v a_1_Attrs := hT.vals 14 rfl 57 rfl
        have hAp := hAp.add e262
        have e263 : a.tmps.getD 58 undef = .int .i64 i_83 := hT.vals 15 rfl 58 rfl
        have hAp := hAp.add e263
        exact opk_val hAp rfl (r_indexAddr (hAp.get rfl) (hAp.get rfl) Try.underlying23 ti_33 hp265.1 hp265.2) fun _ _ e => ⟨_, e, Chg.refl _ _, fun _ => Eq.refl _⟩
      · intro a w hT
        have hAp := hT.ag hA225 [] trivial (by kernel_rfl)
        have e267 : a.tmps.getD 59 undef = .pointer (some (p_264.add (i_83.toNat * 2))) := hT.vals 16 rfl 59 rfl
        have hAp := hAp.add e267
        exact opk_val hAp rfl (r_fieldAddr (hAp.get rfl) Try.underlying33 rfl ti_9 (by decide)) fun _ _ e => ⟨_, e, Chg.refl _ _, fun _ => Eq.refl _⟩
      · intro a w hT
        have hAp := hT.ag hA225 [] trivial (by kernel_rfl)
        have e268 : a.tmps.getD 60 undef = .pointer (some ((p_264.add (i_83.toNat * 2)).add 1)) := hT.vals 17 rfl 60 rfl
        have hAp := hAp.add e268
        exact opk_val hAp rfl (r_load1 Try.underlying9 rfl (hAp.get rfl) (Ext.cell hT.chg hx270)) fun _ _ e => ⟨_, e, Chg.refl _ _, fun _ => Eq.refl _⟩
      · intro a w hT
        have hAp := hT.ag hA225 [(3, .pointer (some (⟨B_11, 0, none⟩ : Addr)))] ⟨rfl, trivial⟩ (by kernel_rfl)
        exact opk_val hAp rfl (r_fieldAddr (hAp.get rfl) Try.underlying26 rfl ti_23 (by decide)) fun _ _ e => ⟨_, e, Chg.refl _ _, fun _ => Eq.refl _⟩
      · intro a w hT
        have hAp := hT.ag hA225 [] trivial (by kernel_rfl)
        have e272 : a.tmps.getD 62 undef = .pointer (some (⟨B_11, 3, none⟩ : Addr)) := hT.vals 19 rfl 62 rfl
        have hAp := hAp.add e272
        exact opk_val hAp rfl (r_load1 Try.underlying23 rfl (hAp.get rfl) ((hB231.ext hT.chg).cell 3 _ rfl)) fun _ _ e => ⟨_, e, Chg.refl _ _, fun _ => Eq.refl _⟩
      · intro a w hT
        have hAp := hT.ag hA225 [(6, .int .i64 i_83)] ⟨rfl, trivial⟩ (by kernel_rfl)
        exact opk_val hAp rfl (r_move (hAp.get rfl)) fun _ _ e => ⟨_, e, Chg.refl _ _, fun _ => Eq.refl _⟩
      · intro a w hT
        have hAp := hT.ag hA225 [] trivial (by kernel_rfl)
        have e273 : a.tmps.getD 63 undef = Sl.v b_2_Attrs := hT.vals 20 rfl 63 rfl
        have hAp := hAp.add e273
        have e274 : a.tmps.getD 64 undef = .int .i64 i_83 := hT.vals 21 rfl 64 rfl
        have hAp := hAp.add e274
        exact opk_val hAp rfl (r_indexAddr (hAp.get rfl) (hAp.get rfl) Try.underlying23 ti_33 hp276.1 hp276.2) fun _ _ e => ⟨_, e, Chg.refl _ _, fun _ => Eq.refl _⟩
      · intro a w hT
        have hAp := hT.ag hA225 [] trivial (by kernel_rfl)
        have e278 : a.tmps.getD 65 undef = .pointer (some (p_275.add (i_83.toNat * 2))) := hT.vals 22 rfl 65 rfl
        have hAp := hAp.add e278
        exact opk_val hAp rfl (r_fieldAddr (hAp.get rfl) Try.underlying33 rfl ti_9 (by decide)) fun _ _ e => ⟨_, e, Chg.refl _ _, fun _ => Eq.refl _⟩
      · intro a w hT
        have hAp := hT.ag hA225 [] trivial (by kernel_rfl)
        have e279 : a.tmps.getD 66 undef = .pointer (some ((p_275.add (i_83.toNat * 2)).add 1)) := hT.vals 23 rfl 66 rfl
        have hAp := hAp.add e279
        exact opk_val hAp rfl (r_load1 Try.underlying9 rfl (hAp.get rfl) (Ext.cell hT.chg hx281)) fun _ _ e => ⟨_, e, Chg.refl _ _, fun _ => Eq.refl _⟩
      · intro a w hT
        have hAp := hT.ag hA225 [] trivial (by kernel_rfl)
        have e283 : a.tmps.getD 61 undef = .string (Bs x_269) := hT.vals 18 rfl 61 rfl
        have hAp := hAp.add e283
        have e284 : a.tmps.getD 67 undef = .string (Bs x_280) := hT.vals 24 rfl 67 rfl
        have hAp := hAp.add e284
        exact opk_callX hAp rfl (r_call (args := #[.string (Bs x_269), .string (Bs x_280)]) Try.func42 (by decide) rfl (map_arr (ml_cons (hAp.get rfl) (ml_cons (hAp.get rfl) ml_nil))) rfl) (hc286 w hT.chg) fun _ _ _ _ e hR => ⟨_, e, hR.1, fun _ => hR.2⟩
      · intro a w hT
        have hAp := hT.ag hA225 [] trivial (by kernel_rfl)
        have e288 : a.tmps.getD 55 undef = .int .i64 r_258 := hT.vals 12 rfl 55 rfl
        have hAp := hAp.add e288
        have e289 : a.tmps.getD 68 undef = .int .i64 r_285 := hT.vals 25 rfl 68 rfl
        have hAp := hAp.add e289
        exact opk_new (fun B => .slice (some ⟨B, 0, none⟩) 2 2) hAp rfl (r_buildSlice (vs := #[(0, .int .i64 r_258), (1, .int .i64 r_285)]) (cs := [.int .i64 r_258, .int .i64 r_285]) (map_arr2 (ml2_cons (hAp.get rfl) (ml2_cons (hAp.get rfl) (ml2_nil)))) Try.underlying22 ti_3 rfl rfl (by kernel_rfl)) fun _ w291 B_290 hE292 hN293 hB294 _ e => ⟨_, e, hE292, fun _ => ⟨B_290, Nat.le_trans hT.chg.size hN293.ge, hB294, rfl⟩⟩
      · intro a w hT
        have hAp := hT.ag hA225 [] trivial (by kernel_rfl)
        obtain ⟨B_290, hf296, hf297, e295⟩ := hT.vals 26 rfl 69 rfl
        have hAp := hAp.add e295
        exact opk_callX hAp rfl (r_call (args := #[Sl.v (Sl.mk (some ⟨B_290, 0, none⟩) 2 2)]) Try.func40 (by decide) rfl (map_arr (ml_cons (hAp.get rfl) ml_nil)) rfl) (hc299 B_290 w hT.chg hf296 hf297) fun _ _ _ _ e hR => ⟨_, e, hR.1, fun _ => hR.2⟩
      · intro a w hT
        have hAp := hT.ag hA225 [] trivial (by kernel_rfl)
        have e301 : a.tmps.getD 70 undef = .int .i64 r_298 := hT.vals 27 rfl 70 rfl
        have hAp := hAp.add e301
        exact opk_val hAp rfl (r_assign (hAp.get rfl)) fun _ _ e => ⟨_, e, Chg.refl _ _, fun _ => Eq.refl _⟩
      · intro a302 w303 hE304 hag305 hv306
        have hA302 := hag305 [(2, .pointer (some (⟨B_3, 0, none⟩ : Addr))), (3, .pointer (some (⟨B_11, 0, none⟩ : Addr))), (6, .int .i64 i_83)] ⟨rfl, rfl, rfl, trivial⟩ (by kernel_rfl)
        have e308 : a302.tmps.getD 5 undef = .int .i64 r_298 := hv306 28 rfl 5 rfl
        have hA309 := hA302.add e308
        have hB310 := hB230.ext hE304
        have hB311 := hB231.ext hE304
        have hC312 : Chg [] w228 w303 := hE304
        refine PR_end (by kernel_rfl) ?_
        have hA313 := hA309.keep [(2, .pointer (some (⟨B_3, 0, none⟩ : Addr))), (3, .pointer (some (⟨B_11, 0, none⟩ : Addr))), (5, .int .i64 r_298), (6, .int .i64 i_83)] ⟨rfl, rfl, rfl, rfl, trivial⟩
        refine block_normal ?_
        refine then_normal ?_
        refine wp_region_lit ?_
        refine sq (opk_val hA313 rfl (r_move (hA313.get rfl)) fun a314 hA314 _ => ?_)
        obtain ⟨hS316, ht317⟩ := ht300
        refine sq (opk_val hA314 rfl (r_addI (hA314.get rfl) rfl hS316) fun a315 hA315 _ => ?_)
        refine sq (opk_val hA315 rfl (r_assign (hA315.get rfl)) fun a318 hA318 _ => ?_)
        refine sq_end ?_
        have hA319 := hA318.keep [(2, .pointer (some (⟨B_3, 0, none⟩ : Addr))), (3, .pointer (some (⟨B_11, 0, none⟩ : Addr))), (5, .int .i64 r_298), (6, .int .i64 (i_83 + 1))] ⟨rfl, rfl, rfl, rfl, trivial⟩
        have ht320 := ht317 w303    hC312
        have hA321 := hA319.keep [(2, .pointer (some (⟨B_3, 0, none⟩ : Addr))), (3, .pointer (some (⟨B_11, 0, none⟩ : Addr))), (5, .int .i64 r_298), (6, .int .i64 (i_83 + 1))] ⟨rfl, rfl, rfl, rfl, trivial⟩
        exact then_normal ⟨(r_298, i_83 + 1, w303), ⟨hA321, hB310, hB311, rfl, ht320.1⟩, ht320.2⟩
    · have ht227 := ht207.2 ((b_and_f hc).imp (fun h => ((b_and_f h).imp (fun h => (of_decide_eq_false h)) (fun h => (of_decide_eq_false h)))) (fun h => (of_decide_eq_false h)))
      clear hc
      refine wp_exit ?_
      refine then_exit ?_
      refine then_exit ?_
      refine block_hit ?_
      have hA322 := hA225.keep [(2, .pointer (some (⟨B_3, 0, none⟩ : Addr))), (3, .pointer (some (⟨B_11, 0, none⟩ : Addr))), (5, .int .i64 x_82)] ⟨rfl, rfl, rfl, trivial⟩
      refine then_normal ?_
      refine wp_seq ?_
      refine wp_region_lit ?_
      refine sq (opk_val hA322 rfl (r_move (hA322.get rfl)) fun a323 hA323 _ => ?_)
      refine sq (opk_val hA323 rfl (r_fieldAddr (hA323.get rfl) Try.underlying26 rfl ti_23 (by decide)) fun a324 hA324 _ => ?_)
      refine sq (opk_val hA324 rfl (r_load1 Try.underlying23 rfl (hA324.get rfl) (hB203.cell 3 _ rfl)) fun a325 hA325 _ => ?_)
      refine sq (opk_val hA325 rfl (r_len (hA325.get rfl) Try.underlying23) fun a326 hA326 _ => ?_)
      refine sq (opk_val hA326 rfl (r_fieldAddr (hA326.get rfl) Try.underlying26 rfl ti_23 (by decide)) fun a327 hA327 _ => ?_)
      refine sq (opk_val hA327 rfl (r_load1 Try.underlying23 rfl (hA327.get rfl) (hB204.cell 3 _ rfl)) fun a328 hA328 _ => ?_)
      refine sq (opk_val hA328 rfl (r_len (hA328.get rfl) Try.underlying23) fun a329 hA329 _ => ?_)
      refine sq (opk_call hA329 rfl (r_call (args := #[.int .i64 (a_1_Attrs.n : Int), .int .i64 (b_2_Attrs.n : Int)]) Try.func41 (by decide) rfl (map_arr (ml_cons (hA329.get rfl) (ml_cons (hA329.get rfl) ml_nil))) rfl) ht227 fun a331 v337 w332 hA331 _ hn334 hz335 hK336 => ?_)
      obtain ⟨r_330, rfl, ht333⟩ := hK336
      have hB338 := hB203.kept hn334 (.head _)
      have hB339 := hB204.kept hn334 (.tail _ (.head _))
      refine sq (opk_new (fun B => .slice (some ⟨B, 0, none⟩) 2 2) hA331 rfl (r_buildSlice (vs := #[(0, .int .i64 x_82), (1, .int .i64 r_330)]) (cs := [.int .i64 x_82, .int .i64 r_330]) (map_arr2 (ml2_cons (hA331.get rfl) (ml2_cons (hA331.get rfl) (ml2_nil)))) Try.underlying22 ti_3 rfl rfl (by kernel_rfl)) fun a342 w341 B_340 hE343 hN344 hB345 hA342 _ => ?_)
      have hne346 : B_3 ≠ B_340 := Nat.ne_of_lt (Nat.lt_of_lt_of_le hB338.lt hN344.ge)
      have hne347 : B_11 ≠ B_340 := Nat.ne_of_lt (Nat.lt_of_lt_of_le hB339.lt hN344.ge)
      have hN348 : New w332 B_340 w341 := hN344
      have hB349 := hB338.ext hE343
      have hB350 := hB339.ext hE343
      have hC351 : Chg [] w332 w341 := hE343
      have ht352 := ht333 w341 B_340 hN348  hC351
      have ht353 := ht352 hB345
      refine sq (opk_call hA342 rfl (r_call (args := #[Sl.v (Sl.mk (some ⟨B_340, 0, none⟩) 2 2)]) Try.func40 (by decide) rfl (map_arr (ml_cons (hA342.get rfl) ml_nil)) rfl) ht353 fun a355 v361 w356 hA355 _ hn358 hz359 hK360 => ?_)
      obtain ⟨r_354, rfl, ht357⟩ := hK360
      have hB362 := hB349.kept hn358 (.head _)
      have hB363 := hB350.kept hn358 (.tail _ (.head _))
      refine sq (opk_val hA355 rfl (r_assign (hA355.get rfl)) fun a364 hA364 _ => ?_)
      refine sq_end ?_
      have hA365 := hA364.keep [(2, .pointer (some (⟨B_3, 0, none⟩ : Addr))), (3, .pointer (some (⟨B_11, 0, none⟩ : Addr))), (5, .int .i64 r_354)] ⟨rfl, rfl, rfl, trivial⟩
      refine then_normal ?_
      refine wp_seq ?_
      refine wp_seq ?_
      refine wp_region_lit ?_
      refine sq (opk_val hA365 rfl (r_assign rfl) fun a366 hA366 _ => ?_)
      refine sq_end ?_
      have hA367 := hA366.keep [(2, .pointer (some (⟨B_3, 0, none⟩ : Addr))), (3, .pointer (some (⟨B_11, 0, none⟩ : Addr))), (5, .int .i64 r_354), (7, .int .i64 0)] ⟨rfl, rfl, rfl, rfl, trivial⟩
      refine then_normal ?_
      refine wp_block ?_
      obtain ⟨J_371, mu_372, h0449, ht448⟩ := ht357
      refine wp_loop_st (σ := Int × Int × World) (fun s a w => Ag 120 a [(2, .pointer (some (⟨B_3, 0, none⟩ : Addr))), (3, .pointer (some (⟨B_11, 0, none⟩ : Addr))), (5, .int .i64 s.1), (7, .int .i64 s.2.1)] ∧ Box w B_3 26 [.int .i64 a_1_Kind, .string (Bs a_1_Name), .string (Bs a_1_Text), Sl.v a_1_Attrs, Sl.v a_1_Kids] ∧ Box w B_11 26 [.int .i64 b_2_Kind, .string (Bs b_2_Name), .string (Bs b_2_Text), Sl.v b_2_Attrs, Sl.v b_2_Kids] ∧ w = s.2.2 ∧ J_371 s.1 s.2.1 s.2.2) (fun s => mu_372 s.1 s.2.1 s.2.2) (r_354, 0, w356) ⟨hA367.keep [(2, .pointer (some (⟨B_3, 0, none⟩ : Addr))), (3, .pointer (some (⟨B_11, 0, none⟩ : Addr))), (5, .int .i64 r_354), (7, .int .i64 0)] ⟨rfl, rfl, rfl, rfl, trivial⟩, hB362, hB363, rfl, h0449⟩ ?_
      rintro ⟨x_368, i_369, w370⟩ a445 w_ ⟨hA445, hB446, hB447, hw_, hJ451⟩
      have hw_ : w370 = w_ := hw_.symm
      subst hw_
      have ht450 := ht448 x_368 i_369 _ hJ451
      refine wp_seq ?_
      refine wp_seq ?_
      refine wp_region_lit ?_
      refine sq (opk_val hA445 rfl (r_move (hA445.get rfl)) fun a452 hA452 _ => ?_)
      refine sq (opk_val hA452 rfl (r_eql (hA452.get rfl) rfl) fun a453 hA453 _ => ?_)
      refine sq (opk_val hA453 rfl (r_move (hA453.get rfl)) fun a454 hA454 _ => ?_)
      refine sq (opk_gval hA454 rfl rfl (g := true) (e := (decide (x_368 = 0))) rfl (fun hg => r_move (hA454.get rfl)) fun a455 hA455 _ => ?_)
      refine sq (opk_gval hA455 rfl rfl (g := true) (e := (decide (x_368 = 0))) rfl (fun hg => r_fieldAddr (hA455.get rfl) Try.underlying26 rfl ti_24 (by decide)) fun a456 hA456 _ => ?_)
      refine sq (opk_gval hA456 rfl rfl (g := true) (e := (decide (x_368 = 0))) rfl (fun hg => r_load1 Try.underlying24 rfl (cv_get (hA456.get rfl) hg) (hB446.cell 4 _ rfl)) fun a457 hA457 _ => ?_)
      refine sq (opk_gval hA457 rfl rfl (g := true) (e := (decide (x_368 = 0))) rfl (fun hg => r_len (cv_get (hA457.get rfl) hg) Try.underlying24) fun a458 hA458 _ => ?_)
      refine sq (opk_gval hA458 rfl rfl (g := true) (e := (decide (x_368 = 0))) rfl (fun hg => r_lss (cv_get (hA458.get rfl) hg) (cv_get (hA458.get rfl) hg)) fun a459 hA459 _ => ?_)
      refine sq (opk_val hA459 rfl (r_pick_and (g := (true && ((decide (x_368 = 0)) == true))) (hA459.get rfl) (hA459.get rfl) (fun he => g_mkt rfl he)) fun a460 hA460 _ => ?_)
      refine sq (opk_val hA460 rfl (r_move (hA460.get rfl)) fun a461 hA461 _ => ?_)
      refine sq (opk_gval hA461 rfl rfl (g := true) (e := ((decide (x_368 = 0)) && (decide (i_369 < (a_1_Kids.n : Int))))) rfl (fun hg => r_move (hA461.get rfl)) fun a462 hA462 _ => ?_)
      refine sq (opk_gval hA462 rfl rfl (g := true) (e := ((decide (x_368 = 0)) && (decide (i_369 < (a_1_Kids.n : Int))))) rfl (fun hg => r_fieldAddr (hA462.get rfl) Try.underlying26 rfl ti_24 (by decide)) fun a463 hA463 _ => ?_)
      refine sq (opk_gval hA463 rfl rfl (g := true) (e := ((decide (x_368 = 0)) && (decide (i_369 < (a_1_Kids.n : Int))))) rfl (fun hg => r_load1 Try.underlying24 rfl (cv_get (hA463.get rfl) hg) (hB447.cell 4 _ rfl)) fun a464 hA464 _ => ?_)
      refine sq (opk_gval hA464 rfl rfl (g := true) (e := ((decide (x_368 = 0)) && (decide (i_369 < (a_1_Kids.n : Int))))) rfl (fun hg => r_len (cv_get (hA464.get rfl) hg) Try.underlying24) fun a465 hA465 _ => ?_)
      refine sq (opk_gval hA465 rfl rfl (g := true) (e := ((decide (x_368 = 0)) && (decide (i_369 < (a_1_Kids.n : Int))))) rfl (fun hg => r_lss (cv_get (hA465.get rfl) hg) (cv_get (hA465.get rfl) hg)) fun a466 hA466 _ => ?_)
      refine sq (opk_val hA466 rfl (r_pick_and (g := (true && (((decide (x_368 = 0)) && (decide (i_369 < (a_1_Kids.n : Int)))) == true))) (hA466.get rfl) (hA466.get rfl) (fun he => g_mkt rfl he)) fun a467 hA467 _ => ?_)
      refine sq_end ?_
      have hA468 := hA467.keep [(2, .pointer (some (⟨B_3, 0, none⟩ : Addr))), (3, .pointer (some (⟨B_11, 0, none⟩ : Addr))), (5, .int .i64 x_368), (7, .int .i64 i_369), (96, .bool (((decide (x_368 = 0)) && (decide (i_369 < (a_1_Kids.n : Int)))) && (decide (i_369 < (b_2_Kids.n : Int)))))] ⟨rfl, rfl, rfl, rfl, rfl, trivial⟩
      refine then_normal ?_
      refine wp_cond_split (hA468.get rfl) (fun hc => ?_) (fun hc => ?_)
      · have ht469 := ht450.1 ⟨⟨(of_decide_eq_true (b_and_t (b_and_t hc).1).1), (of_decide_eq_true (b_and_t (b_and_t hc).1).2)⟩, (of_decide_eq_true (b_and_t hc).2)⟩
        clear hc
        refine wp_skip ?_
        refine then_normal ?_
        refine wp_seq ?_
        refine wp_block ?_
        refine draw' (by kernel_rfl) fun w471 hE472 => ?_
        have hB473 := hB446.ext hE472
        have hB474 := hB447.ext hE472
        have hC475 : Chg [] w370 w471 := hE472
        have ht476 := ht469 w471    hC475
        obtain ⟨p_480, hp481, ht482⟩ := ht476
        obtain ⟨x_484_Kind, x_484_Name, x_484_Text, x_484_Attrs, x_484_Kids, hx485, ht486⟩ := ht482
        obtain ⟨p_490, hp491, ht492⟩ := ht486
        obtain ⟨x_494_Kind, x_494_Name, x_494_Text, x_494_Attrs, x_494_Kids, hx495, ht496⟩ := ht492
        obtain ⟨r_499, hc500, ht501⟩ := ht496
        refine par (D := [[], [0], [], [0, 1, 2], [0, 1, 2, 3], [], [5], [], [5, 6, 7], [5, 6, 7, 8], [0, 1, 2, 3, 4, 5, 6, 7, 8, 9], [0, 1, 2, 3, 4, 5, 6, 7, 8, 9, 10]]) (S := [0, 1, 2, 3, 4, 5, 6, 7, 8, 9, 10, 11]) (F := []) (V := VL [(0, fun v _ => v = .pointer (some (⟨B_3, 4, none⟩ : Addr))), (1, fun v _ => v = Sl.v a_1_Kids), (2, fun v _ => v = .int .i64 i_369), (3, fun v _ => v = .pointer (some (p_480.add (i_369.toNat * 5)))), (4, fun v _ => v = .agg #[.int .i64 x_484_Kind, .string (Bs x_484_Name), .string (Bs x_484_Text), Sl.v x_484_Attrs, Sl.v x_484_Kids]), (5, fun v _ => v = .pointer (some (⟨B_11, 4, none⟩ : Addr))), (6, fun v _ => v = Sl.v b_2_Kids), (7, fun v _ => v = .int .i64 i_369), (8, fun v _ => v = .pointer (some (p_490.add (i_369.toNat * 5)))), (9, fun v _ => v = .agg #[.int .i64 x_494_Kind, .string (Bs x_494_Name), .string (Bs x_494_Text), Sl.v x_494_Attrs, Sl.v x_494_Kids]), (10, fun v _ => v = .int .i64 r_499), (11, fun v _ => v = .int .i64 r_499)]) hA468 (by kernel_rfl) ⟨fun _ _ _ _ h => by first | exact h | (change _ = _ at h; change _ = _; exact h), fun _ _ _ _ h => by first | exact h | (change _ = _ at h; change _ = _; exact h), fun _ _ _ _ h => by first | exact h | (change _ = _ at h; change _ = _; exact h), fun _ _ _ _ h => by first | exact h | (change _ = _ at h; change _ = _; exact h), fun _ _ _ _ h => by first | exact h | (change _ = _ at h; change _ = _; exact h), fun _ _ _ _ h => by first | exact h | (change _ = _ at h; change _ = _; exact h), fun _ _ _ _ h => by first | exact h | (change _ = _ at h; change _ = _; exact h), fun _ _ _ _ h => by first | exact h | (change _ = _ at h; change _ = _; exact h), fun _ _ _ _ h => by first | exact h | (change _ = _ at h; change _ = _; exact h), fun _ _ _ _ h => by first | exact h | (change _ = _ at h; change _ = _; exact h), fun _ _ _ _ h => by first | exact h | (change _ = _ at h; change _ = _; exact h), fun _ _ _ _ h => by first | exact h | (change _ = _ at h; change _ = _; exact h), trivial⟩ ⟨?_, ?_, ?_, ?_, ?_, ?_, ?_, ?_, ?_, ?_, ?_, ?_, trivial⟩ ?_
        · intro a w hT
          have hAp := hT.ag hA468 [(2, .pointer (some (⟨B_3, 0, none⟩ : Addr)))] ⟨rfl, trivial⟩ (by kernel_rfl)
          exact opk_val hAp rfl (r_fieldAddr (hAp.get rfl) Try.underlying26 rfl ti_24 (by decide)) fun _ _ e => ⟨_, e, Chg.refl _ _, fun _ => Eq.refl _⟩
        · intro a w hT
          have hAp := hT.ag hA468 [] trivial (by kernel_rfl)
          have e477 : a.tmps.getD 99 undef = .pointer (some (⟨B_3, 4, none⟩ : Addr)) := hT.vals 0 rfl 99 rfl
          have hAp := hAp.add e477
          exact opk_val hAp rfl (r_load1 Try.underlying24 rfl (hAp.get rfl) ((hB473.ext hT.chg).cell 4 _ rfl)) fun _ _ e => ⟨_, e, Chg.refl _ _, fun _ => Eq.refl _⟩
        · intro a w hT
          have hAp := hT.ag hA468 [(7, .int .i64 i_369)] ⟨rfl, trivial⟩ (by kernel_rfl)
          exact opk_val hAp rfl (r_move (hAp.get rfl)) fun _ _ e => ⟨_, e, Chg.refl _ _, fun _ => Eq.refl _⟩
        · intro a w hT
          have hAp := hT.ag hA468 [] trivial (by kernel_rfl)
          have e478 : a.tmps.getD 100 undef = Sl.v a_1_Kids := hT.vals 1 rfl 100 rfl
          have hAp := hAp.add e478
          have e479 : a.tmps.getD 101 undef = .int .i64 i_369 := hT.vals 2 rfl 101 rfl
          have hAp := hAp.add e479
          exact opk_val hAp rfl (r_indexAddr (hAp.get rfl) (hAp.get rfl) Try.underlying24 ti_26 hp481.1 hp481.2) fun _ _ e => ⟨_, e, Chg.refl _ _, fun _ => Eq.refl _⟩
        · intro a w hT
          have hAp := hT.ag hA468 [] trivial (by kernel_rfl)
          have e483 : a.tmps.getD 102 undef = .pointer (some (p_480.add (i_369.toNat * 5))) := hT.vals 3 rfl 102 rfl
          have hAp := hAp.add e483
          exact opk_val hAp rfl (r_loadN Try.underlying26 rfl ti_26 (hAp.get rfl) (hx485.ext hT.chg)) fun _ _ e => ⟨_, e, Chg.refl _ _, fun _ => Eq.refl _⟩
        · intro a w hT
          have hAp := hT.ag hA468 [(3, .pointer (some (⟨B_11, 0, none⟩ : Addr)))] ⟨rfl, trivial⟩ (by kernel_rfl)
          exact opk_val hAp rfl (r_fieldAddr (hAp.get rfl) Try.underlying26 rfl ti_24 (by decide)) fun _ _ e => ⟨_, e, Chg.refl _ _, fun _ => Eq.refl _⟩
        · intro a w hT
          have hAp := hT.ag hA468 [] trivial (by kernel_rfl)
          have e487 : a.tmps.getD 104 undef = .pointer (some (⟨B_11, 4, none⟩ : Addr)) := hT.vals 5 rfl 104 rfl
          have hAp := hAp.add e487
          exact opk_val hAp rfl (r_load1 Try.underlying24 rfl (hAp.get rfl) ((hB474.ext hT.chg).cell 4 _ rfl)) fun _ _ e => ⟨_, e, Chg.refl _ _, fun _ => Eq.refl _⟩
        · intro a w hT
          have hAp := hT.ag hA468 [(7, .int .i64 i_369)] ⟨rfl, trivial⟩ (by kernel_rfl)
          exact opk_val hAp rfl (r_move (hAp.get rfl)) fun _ _ e => ⟨_, e, Chg.refl _ _, fun _ => Eq.refl _⟩
        · intro a w hT
          have hAp := hT.ag hA468 [] trivial (by kernel_rfl)
          have e488 : a.tmps.getD 105 undef = Sl.v b_2_Kids := hT.vals 6 rfl 105 rfl
          have hAp := hAp.add e488
          have e489 : a.tmps.getD 106 undef = .int .i64 i_369 := hT.vals 7 rfl 106 rfl
          have hAp := hAp.add e489
          exact opk_val hAp rfl (r_indexAddr (hAp.get rfl) (hAp.get rfl) Try.underlying24 ti_26 hp491.1 hp491.2) fun _ _ e => ⟨_, e, Chg.refl _ _, fun _ => Eq.refl _⟩
        · intro a w hT
          have hAp := hT.ag hA468 [] trivial (by kernel_rfl)
          have e493 : a.tmps.getD 107 undef = .pointer (some (p_490.add (i_369.toNat * 5))) := hT.vals 8 rfl 107 rfl
          have hAp := hAp.add e493
          exact opk_val hAp rfl (r_loadN Try.underlying26 rfl ti_26 (hAp.get rfl) (hx495.ext hT.chg)) fun _ _ e => ⟨_, e, Chg.refl _ _, fun _ => Eq.refl _⟩
        · intro a w hT
          have hAp := hT.ag hA468 [] trivial (by kernel_rfl)
          have e497 : a.tmps.getD 103 undef = .agg #[.int .i64 x_484_Kind, .string (Bs x_484_Name), .string (Bs x_484_Text), Sl.v x_484_Attrs, Sl.v x_484_Kids] := hT.vals 4 rfl 103 rfl
          have hAp := hAp.add e497
          have e498 : a.tmps.getD 108 undef = .agg #[.int .i64 x_494_Kind, .string (Bs x_494_Name), .string (Bs x_494_Text), Sl.v x_494_Attrs, Sl.v x_494_Kids] := hT.vals 9 rfl 108 rfl
          have hAp := hAp.add e498
          exact opk_callX hAp rfl (r_call (args := #[.agg #[.int .i64 x_484_Kind, .string (Bs x_484_Name), .string (Bs x_484_Text), Sl.v x_484_Attrs, Sl.v x_484_Kids], .agg #[.int .i64 x_494_Kind, .string (Bs x_494_Name), .string (Bs x_494_Text), Sl.v x_494_Attrs, Sl.v x_494_Kids]]) Try.func24 (by decide) rfl (map_arr (ml_cons (hAp.get rfl) (ml_cons (hAp.get rfl) ml_nil))) rfl) (hc500 w hT.chg) fun _ _ _ _ e hR => ⟨_, e, hR.1, fun _ => hR.2⟩
        · intro a w hT
          have hAp := hT.ag hA468 [] trivial (by kernel_rfl)
          have e502 : a.tmps.getD 109 undef = .int .i64 r_499 := hT.vals 10 rfl 109 rfl
          have hAp := hAp.add e502
          exact opk_val hAp rfl (r_assign (hAp.get rfl)) fun _ _ e => ⟨_, e, Chg.refl _ _, fun _ => Eq.refl _⟩
        · intro a503 w504 hE505 hag506 hv507
          have hA503 := hag506 [(2, .pointer (some (⟨B_3, 0, none⟩ : Addr))), (3, .pointer (some (⟨B_11, 0, none⟩ : Addr))), (7, .int .i64 i_369)] ⟨rfl, rfl, rfl, trivial⟩ (by kernel_rfl)
          have e509 : a503.tmps.getD 5 undef = .int .i64 r_499 := hv507 11 rfl 5 rfl
          have hA510 := hA503.add e509
          have hB511 := hB473.ext hE505
          have hB512 := hB474.ext hE505
          have hC513 : Chg [] w471 w504 := hE505
          refine PR_end (by kernel_rfl) ?_
          have hA514 := hA510.keep [(2, .pointer (some (⟨B_3, 0, none⟩ : Addr))), (3, .pointer (some (⟨B_11, 0, none⟩ : Addr))), (5, .int .i64 r_499), (7, .int .i64 i_369)] ⟨rfl, rfl, rfl, rfl, trivial⟩
          refine block_normal ?_
          refine then_normal ?_
          refine wp_region_lit ?_
          refine sq (opk_val hA514 rfl (r_move (hA514.get rfl)) fun a515 hA515 _ => ?_)
          obtain ⟨hS517, ht518⟩ := ht501
          refine sq (opk_val hA515 rfl (r_addI (hA515.get rfl) rfl hS517) fun a516 hA516 _ => ?_)
          refine sq (opk_val hA516 rfl (r_assign (hA516.get rfl)) fun a519 hA519 _ => ?_)
          refine sq_end ?_
          have hA520 := hA519.keep [(2, .pointer (some (⟨B_3, 0, none⟩ : Addr))), (3, .pointer (some (⟨B_11, 0, none⟩ : Addr))), (5, .int .i64 r_499), (7, .int .i64 (i_369 + 1))] ⟨rfl, rfl, rfl, rfl, trivial⟩
          have ht521 := ht518 w504    hC513
          have hA522 := hA520.keep [(2, .pointer (some (⟨B_3, 0, none⟩ : Addr))), (3, .pointer (some (⟨B_11, 0, none⟩ : Addr))), (5, .int .i64 r_499), (7, .int .i64 (i_369 + 1))] ⟨rfl, rfl, rfl, rfl, trivial⟩
          exact then_normal ⟨(r_499, i_369 + 1, w504), ⟨hA522, hB511, hB512, rfl, ht521.1⟩, ht521.2⟩
      · have ht470 := ht450.2 ((b_and_f hc).imp (fun h => ((b_and_f h).imp (fun h => (of_decide_eq_false h)) (fun h => (of_decide_eq_false h)))) (fun h => (of_decide_eq_false h)))
        clear hc
        refine wp_exit ?_
        refine then_exit ?_
        refine then_exit ?_
        refine block_hit ?_
        have hA523 := hA468.keep [(2, .pointer (some (⟨B_3, 0, none⟩ : Addr))), (3, .pointer (some (⟨B_11, 0, none⟩ : Addr))), (5, .int .i64 x_368)] ⟨rfl, rfl, rfl, trivial⟩
        refine then_normal ?_
        refine wp_seq ?_
        refine wp_region_lit ?_
        refine sq (opk_val hA523 rfl (r_move (hA523.get rfl)) fun a524 hA524 _ => ?_)
        refine sq (opk_val hA524 rfl (r_fieldAddr (hA524.get rfl) Try.underlying26 rfl ti_24 (by decide)) fun a525 hA525 _ => ?_)
        refine sq (opk_val hA525 rfl (r_load1 Try.underlying24 rfl (hA525.get rfl) (hB446.cell 4 _ rfl)) fun a526 hA526 _ => ?_)
        refine sq (opk_val hA526 rfl (r_len (hA526.get rfl) Try.underlying24) fun a527 hA527 _ => ?_)
        refine sq (opk_val hA527 rfl (r_fieldAddr (hA527.get rfl) Try.underlying26 rfl ti_24 (by decide)) fun a528 hA528 _ => ?_)
        refine sq (opk_val hA528 rfl (r_load1 Try.underlying24 rfl (hA528.get rfl) (hB447.cell 4 _ rfl)) fun a529 hA529 _ => ?_)
        refine sq (opk_val hA529 rfl (r_len (hA529.get rfl) Try.underlying24) fun a530 hA530 _ => ?_)
        refine sq (opk_call hA530 rfl (r_call (args := #[.int .i64 (a_1_Kids.n : Int), .int .i64 (b_2_Kids.n : Int)]) Try.func41 (by decide) rfl (map_arr (ml_cons (hA530.get rfl) (ml_cons (hA530.get rfl) ml_nil))) rfl) ht470 fun a532 v538 w533 hA532 _ hn535 hz536 hK537 => ?_)
        obtain ⟨r_531, rfl, ht534⟩ := hK537
        have hB539 := hB446.kept hn535 (.head _)
        have hB540 := hB447.kept hn535 (.tail _ (.head _))
        refine sq (opk_new (fun B => .slice (some ⟨B, 0, none⟩) 2 2) hA532 rfl (r_buildSlice (vs := #[(0, .int .i64 x_368), (1, .int .i64 r_531)]) (cs := [.int .i64 x_368, .int .i64 r_531]) (map_arr2 (ml2_cons (hA532.get rfl) (ml2_cons (hA532.get rfl) (ml2_nil)))) Try.underlying22 ti_3 rfl rfl (by kernel_rfl)) fun a543 w542 B_541 hE544 hN545 hB546 hA543 _ => ?_)
        have hne547 : B_3 ≠ B_541 := Nat.ne_of_lt (Nat.lt_of_lt_of_le hB539.lt hN545.ge)
        have hne548 : B_11 ≠ B_541 := Nat.ne_of_lt (Nat.lt_of_lt_of_le hB540.lt hN545.ge)
        have hN549 : New w533 B_541 w542 := hN545
        have hB550 := hB539.ext hE544
        have hB551 := hB540.ext hE544
        have hC552 : Chg [] w533 w542 := hE544
        have ht553 := ht534 w542 B_541 hN549  hC552
        have ht554 := ht553 hB546
        refine sq (opk_call hA543 rfl (r_call (args := #[Sl.v (Sl.mk (some ⟨B_541, 0, none⟩) 2 2)]) Try.func40 (by decide) rfl (map_arr (ml_cons (hA543.get rfl) ml_nil)) rfl) ht554 fun a556 v562 w557 hA556 _ hn559 hz560 hK561 => ?_)
        obtain ⟨r_555, rfl, ht558⟩ := hK561
        have hB563 := hB550.kept hn559 (.head _)
        have hB564 := hB551.kept hn559 (.tail _ (.head _))
        refine sq (opk_val hA556 rfl (r_assign (hA556.get rfl)) fun a565 hA565 _ => ?_)
        refine sq_end ?_
        have hA566 := hA565.keep [(4, .int .i64 r_555)] ⟨rfl, trivial⟩
        refine then_normal ?_
        refine wp_ret ?_
        exact res_all (vs := [.int .i64 r_555]) rfl hA566 ⟨res_of_tmp hA566 rfl, trivial⟩ ht558

/-- The condition of topiary/tree.Same. -/
def tree_Same.vc (a_1_Kind : Int) (a_1_Name : Str) (a_1_Text : Str) (a_1_Attrs : Sl) (a_1_Kids : Sl) (b_2_Kind : Int) (b_2_Name : Str) (b_2_Text : Str) (b_2_Attrs : Sl) (b_2_Kids : Sl) (R : Value → World → Prop) (w : World) : Prop :=
((((((a_1_Kind ≠ b_2_Kind) ∨ (a_1_Name ≠ b_2_Name)) ∨ (a_1_Text ≠ b_2_Text)) ∨ ((a_1_Attrs.n : Int) ≠ (b_2_Attrs.n : Int))) ∨ ((a_1_Kids.n : Int) ≠ (b_2_Kids.n : Int))) →
∀ (w12 : World) (B_3 : Nat) (B_11 : Nat), New w B_3 w12 → New w B_11 w12 → B_3 ≠ B_11 → Chg [] w w12 →
R (.bool false) w12) ∧
((((((¬ (a_1_Kind ≠ b_2_Kind)) ∧ (¬ (a_1_Name ≠ b_2_Name))) ∧ (¬ (a_1_Text ≠ b_2_Text))) ∧ (¬ ((a_1_Attrs.n : Int) ≠ (b_2_Attrs.n : Int)))) ∧ (¬ ((a_1_Kids.n : Int) ≠ (b_2_Kids.n : Int)))) →
∀ (w12 : World) (B_3 : Nat) (B_11 : Nat), New w B_3 w12 → New w B_11 w12 → B_3 ≠ B_11 → Chg [] w w12 →
∃ (J_74 : Int → World → Prop) (mu_75 : Int → World → Nat),
J_74 0 w12 ∧
(∀ (x_72 : Int) (w73 : World), J_74 x_72 w73 →
((x_72 < (a_1_Attrs.n : Int)) →
((0 : Int) ≤ x_72 ∧ x_72 < (a_1_Attrs.n : Int)) ∧ ∃ p_171 : Addr, a_1_Attrs.a = some p_171 ∧
∃ (x_177_Name : Str) (x_177_Value : Str), (Cells w73 (p_171.add (x_72.toNat * 2)) [.string (Bs x_177_Name), .string (Bs x_177_Value)]) ∧
∀ (w203 : World) (B_180 : Nat), New w73 B_180 w203 → Chg [] w73 w203 →
∃ p_214 : Addr, (((0 : Int) ≤ x_72 ∧ x_72 < (b_2_Attrs.n : Int)) ∧ b_2_Attrs.a = some p_214) ∧
∃ (x_218_Name : Str) (x_218_Value : Str), (Cells w203 (p_214.add (x_72.toNat * 2)) [.string (Bs x_218_Name), .string (Bs x_218_Value)]) ∧
((¬ (x_177_Name = x_218_Name ∧ x_177_Value = x_218_Value)) →
∀ (w224 : World), Chg [] w203 w224 →
R (.bool false) w224) ∧
((¬ (¬ (x_177_Name = x_218_Name ∧ x_177_Value = x_218_Value))) →
(I64 (x_72 + 1)) ∧
∀ (w224 : World), Chg [] w203 w224 →
J_74 (x_72 + 1) w224 ∧ mu_75 (x_72 + 1) w224 < mu_75 x_72 w73)) ∧
((¬ (x_72 < (a_1_Attrs.n : Int))) →
∃ (J_256 : Int → World → Prop) (mu_257 : Int → World → Nat),
J_256 0 w73 ∧
(∀ (x_254 : Int) (w255 : World), J_256 x_254 w255 →
((x_254 < (a_1_Kids.n : Int)) →
((0 : Int) ≤ x_254 ∧ x_254 < (a_1_Kids.n : Int)) ∧ ∃ p_349 : Addr, a_1_Kids.a = some p_349 ∧
∃ (x_355_Kind : Int) (x_355_Name : Str) (x_355_Text : Str) (x_355_Attrs : Sl) (x_355_Kids : Sl), (Cells w255 (p_349.add (x_254.toNat * 5)) [.int .i64 x_355_Kind, .string (Bs x_355_Name), .string (Bs x_355_Text), Sl.v x_355_Attrs, Sl.v x_355_Kids]) ∧
∀ (w378 : World) (B_358 : Nat), New w255 B_358 w378 → Chg [] w255 w378 →
∃ p_388 : Addr, (((0 : Int) ≤ x_254 ∧ x_254 < (b_2_Kids.n : Int)) ∧ b_2_Kids.a = some p_388) ∧
∃ (x_392_Kind : Int) (x_392_Name : Str) (x_392_Text : Str) (x_392_Attrs : Sl) (x_392_Kids : Sl), (Cells w378 (p_388.add (x_254.toNat * 5)) [.int .i64 x_392_Kind, .string (Bs x_392_Name), .string (Bs x_392_Text), Sl.v x_392_Attrs, Sl.v x_392_Kids]) ∧
∃ (r_397 : Bool), (∀ w' : World, Ext w378 w' → Calls Try.prog 25 #[.agg #[.int .i64 x_355_Kind, .string (Bs x_355_Name), .string (Bs x_355_Text), Sl.v x_355_Attrs, Sl.v x_355_Kids], .agg #[.int .i64 x_392_Kind, .string (Bs x_392_Name), .string (Bs x_392_Text), Sl.v x_392_Attrs, Sl.v x_392_Kids]] w' (Ret fun v w'' => Ext w' w'' ∧ v = .bool r_397)) ∧
((r_397 = false) →
∀ (w402 : World), Chg [] w378 w402 →
R (.bool false) w402) ∧
((r_397 = true) →
(I64 (x_254 + 1)) ∧
∀ (w402 : World), Chg [] w378 w402 →
J_256 (x_254 + 1) w402 ∧ mu_257 (x_254 + 1) w402 < mu_257 x_254 w255)) ∧
((¬ (x_254 < (a_1_Kids.n : Int))) →
R (.bool true) w255)))))
set_option maxHeartbeats 1000000 in
set_option maxRecDepth 10000 in
theorem tree_Same.ok (a_1_Kind : Int) (a_1_Name : Str) (a_1_Text : Str) (a_1_Attrs : Sl) (a_1_Kids : Sl) (b_2_Kind : Int) (b_2_Name : Str) (b_2_Text : Str) (b_2_Attrs : Sl) (b_2_Kids : Sl) {R : Value → World → Prop} {w : World} (ht0 : tree_Same.vc a_1_Kind a_1_Name a_1_Text a_1_Attrs a_1_Kids b_2_Kind b_2_Name b_2_Text b_2_Attrs b_2_Kids R w) : Calls Try.prog 25 #[.agg #[.int .i64 a_1_Kind, .string (Bs a_1_Name), .string (Bs a_1_Text), Sl.v a_1_Attrs, Sl.v a_1_Kids], .agg #[.int .i64 b_2_Kind, .string (Bs b_2_Name), .string (Bs b_2_Text), Sl.v b_2_Attrs, Sl.v b_2_Kids]] w (Ret R) := by
  refine enter [.agg #[.int .i64 a_1_Kind, .string (Bs a_1_Name), .string (Bs a_1_Text), Sl.v a_1_Attrs, Sl.v a_1_Kids], .agg #[.int .i64 b_2_Kind, .string (Bs b_2_Name), .string (Bs b_2_Text), Sl.v b_2_Attrs, Sl.v b_2_Kids]] Try.func25 rfl Try.ntmps25 rfl ?_
  intro a0 hA0
  unfold tree_Same.vc at ht0
  refine wp_seq ?_
  refine wp_region_lit ?_
  refine sq (opk_new (fun B => .pointer (some ⟨B, 0, none⟩)) hA0 rfl (r_box (cs := [.int .i64 a_1_Kind, .string (Bs a_1_Name), .string (Bs a_1_Text), Sl.v a_1_Attrs, Sl.v a_1_Kids]) (hA0.get rfl) rfl) fun a5 w4 B_3 hE6 hN7 hB8 hA5 _ => ?_)
  have hN9 : New w B_3 w4 := hN7
  have hC10 : Chg [] w w4 := hE6
  refine sq (opk_new (fun B => .pointer (some ⟨B, 0, none⟩)) hA5 rfl (r_box (cs := [.int .i64 b_2_Kind, .string (Bs b_2_Name), .string (Bs b_2_Text), Sl.v b_2_Attrs, Sl.v b_2_Kids]) (hA5.get rfl) rfl) fun a13 w12 B_11 hE14 hN15 hB16 hA13 _ => ?_)
  have hne17 : B_3 ≠ B_11 := Nat.ne_of_lt (Nat.lt_of_lt_of_le hB8.lt hN15.ge)
  have hN18 := New.of hC10 hN15
  have hB19 := hB8.ext hE14
  have hC20 := hC10.more hE14
  have hN21 := hN9.up hE14.size
  refine sq (opk_val hA13 rfl (r_assign rfl) fun a22 hA22 _ => ?_)
  refine sq_end ?_
  have hA23 := hA22.keep [(2, .pointer (some (⟨B_3, 0, none⟩ : Addr))), (3, .pointer (some (⟨B_11, 0, none⟩ : Addr)))] ⟨rfl, rfl, trivial⟩
  refine then_normal ?_
  refine wp_seq ?_
  refine wp_seq ?_
  refine wp_region_lit ?_
  refine sq (opk_val hA23 rfl (r_fieldAddr (hA23.get rfl) Try.underlying26 rfl ti_3 (by decide)) fun a24 hA24 _ => ?_)
  refine sq (opk_val hA24 rfl (r_load1 Try.underlying3 rfl (hA24.get rfl) (hB19.cell 0 _ rfl)) fun a25 hA25 _ => ?_)
  refine sq (opk_val hA25 rfl (r_fieldAddr (hA25.get rfl) Try.underlying26 rfl ti_3 (by decide)) fun a26 hA26 _ => ?_)
  refine sq (opk_val hA26 rfl (r_load1 Try.underlying3 rfl (hA26.get rfl) (hB16.cell 0 _ rfl)) fun a27 hA27 _ => ?_)
  refine sq (opk_val hA27 rfl (r_neq (hA27.get rfl) (hA27.get rfl)) fun a28 hA28 _ => ?_)
  refine sq (opk_val hA28 rfl (r_move (hA28.get rfl)) fun a29 hA29 _ => ?_)
  refine sq (opk_gval hA29 rfl rfl (g := true) (e := (decide (a_1_Kind ≠ b_2_Kind))) rfl (fun hg => r_fieldAddr (hA29.get rfl) Try.underlying26 rfl ti_9 (by decide)) fun a30 hA30 _ => ?_)
  refine sq (opk_gval hA30 rfl rfl (g := true) (e := (decide (a_1_Kind ≠ b_2_Kind))) rfl (fun hg => r_load1 Try.underlying9 rfl (cv_get (hA30.get rfl) hg) (hB19.cell 1 _ rfl)) fun a31 hA31 _ => ?_)
  refine sq (opk_gval hA31 rfl rfl (g := true) (e := (decide (a_1_Kind ≠ b_2_Kind))) rfl (fun hg => r_fieldAddr (hA31.get rfl) Try.underlying26 rfl ti_9 (by decide)) fun a32 hA32 _ => ?_)
  refine sq (opk_gval hA32 rfl rfl (g := true) (e := (decide (a_1_Kind ≠ b_2_Kind))) rfl (fun hg => r_load1 Try.underlying9 rfl (cv_get (hA32.get rfl) hg) (hB16.cell 1 _ rfl)) fun a33 hA33 _ => ?_)
  refine sq (opk_gval hA33 rfl rfl (g := true) (e := (decide (a_1_Kind ≠ b_2_Kind))) rfl (fun hg => r_sneq (cv_get (hA33.get rfl) hg) (cv_get (hA33.get rfl) hg)) fun a34 hA34 _ => ?_)
  refine sq (opk_val hA34 rfl (r_pick_or (g := (true && ((decide (a_1_Kind ≠ b_2_Kind)) == false))) (hA34.get rfl) (hA34.get rfl) (fun he => g_mkf rfl he)) fun a35 hA35 _ => ?_)
  refine sq (opk_val hA35 rfl (r_move (hA35.get rfl)) fun a36 hA36 _ => ?_)
  refine sq (opk_gval hA36 rfl rfl (g := true) (e := ((decide (a_1_Kind ≠ b_2_Kind)) || (decide (a_1_Name ≠ b_2_Name)))) rfl (fun hg => r_fieldAddr (hA36.get rfl) Try.underlying26 rfl ti_9 (by decide)) fun a37 hA37 _ => ?_)
  refine sq (opk_gval hA37 rfl rfl (g := true) (e := ((decide (a_1_Kind ≠ b_2_Kind)) || (decide (a_1_Name ≠ b_2_Name)))) rfl (fun hg => r_load1 Try.underlying9 rfl (cv_get (hA37.get rfl) hg) (hB19.cell 2 _ rfl)) fun a38 hA38 _ => ?_)
  refine sq (opk_gval hA38 rfl rfl (g := true) (e := ((decide (a_1_Kind ≠ b_2_Kind)) || (decide (a_1_Name ≠ b_2_Name)))) rfl (fun hg => r_fieldAddr (hA38.get rfl) Try.underlying26 rfl ti_9 (by decide)) fun a39 hA39 _ => ?_)
  refine sq (opk_gval hA39 rfl rfl (g := true) (e := ((decide (a_1_Kind ≠ b_2_Kind)) || (decide (a_1_Name ≠ b_2_Name)))) rfl (fun hg => r_load1 Try.underlying9 rfl (cv_get (hA39.get rfl) hg) (hB16.cell 2 _ rfl)) fun a40 hA40 _ => ?_)
  refine sq (opk_gval hA40 rfl rfl (g := true) (e := ((decide (a_1_Kind ≠ b_2_Kind)) || (decide (a_1_Name ≠ b_2_Name)))) rfl (fun hg => r_sneq (cv_get (hA40.get rfl) hg) (cv_get (hA40.get rfl) hg)) fun a41 hA41 _ => ?_)
  refine sq (opk_val hA41 rfl (r_pick_or (g := (true && (((decide (a_1_Kind ≠ b_2_Kind)) || (decide (a_1_Name ≠ b_2_Name))) == false))) (hA41.get rfl) (hA41.get rfl) (fun he => g_mkf rfl he)) fun a42 hA42 _ => ?_)
  refine sq (opk_val hA42 rfl (r_move (hA42.get rfl)) fun a43 hA43 _ => ?_)
  refine sq (opk_gval hA43 rfl rfl (g := true) (e := (((decide (a_1_Kind ≠ b_2_Kind)) || (decide (a_1_Name ≠ b_2_Name))) || (decide (a_1_Text ≠ b_2_Text)))) rfl (fun hg => r_fieldAddr (hA43.get rfl) Try.underlying26 rfl ti_23 (by decide)) fun a44 hA44 _ => ?_)
  refine sq (opk_gval hA44 rfl rfl (g := true) (e := (((decide (a_1_Kind ≠ b_2_Kind)) || (decide (a_1_Name ≠ b_2_Name))) || (decide (a_1_Text ≠ b_2_Text)))) rfl (fun hg => r_load1 Try.underlying23 rfl (cv_get (hA44.get rfl) hg) (hB19.cell 3 _ rfl)) fun a45 hA45 _ => ?_)
  refine sq (opk_gval hA45 rfl rfl (g := true) (e := (((decide (a_1_Kind ≠ b_2_Kind)) || (decide (a_1_Name ≠ b_2_Name))) || (decide (a_1_Text ≠ b_2_Text)))) rfl (fun hg => r_len (cv_get (hA45.get rfl) hg) Try.underlying23) fun a46 hA46 _ => ?_)
  refine sq (opk_gval hA46 rfl rfl (g := true) (e := (((decide (a_1_Kind ≠ b_2_Kind)) || (decide (a_1_Name ≠ b_2_Name))) || (decide (a_1_Text ≠ b_2_Text)))) rfl (fun hg => r_fieldAddr (hA46.get rfl) Try.underlying26 rfl ti_23 (by decide)) fun a47 hA47 _ => ?_)
  refine sq (opk_gval hA47 rfl rfl (g := true) (e := (((decide (a_1_Kind ≠ b_2_Kind)) || (decide (a_1_Name ≠ b_2_Name))) || (decide (a_1_Text ≠ b_2_Text)))) rfl (fun hg => r_load1 Try.underlying23 rfl (cv_get (hA47.get rfl) hg) (hB16.cell 3 _ rfl)) fun a48 hA48 _ => ?_)
  refine sq (opk_gval hA48 rfl rfl (g := true) (e := (((decide (a_1_Kind ≠ b_2_Kind)) || (decide (a_1_Name ≠ b_2_Name))) || (decide (a_1_Text ≠ b_2_Text)))) rfl (fun hg => r_len (cv_get (hA48.get rfl) hg) Try.underlying23) fun a49 hA49 _ => ?_)
  refine sq (opk_gval hA49 rfl rfl (g := true) (e := (((decide (a_1_Kind ≠ b_2_Kind)) || (decide (a_1_Name ≠ b_2_Name))) || (decide (a_1_Text ≠ b_2_Text)))) rfl (fun hg => r_neq (cv_get (hA49.get rfl) hg) (cv_get (hA49.get rfl) hg)) fun a50 hA50 _ => ?_)
  refine sq (opk_val hA50 rfl (r_pick_or (g := (true && ((((decide (a_1_Kind ≠ b_2_Kind)) || (decide (a_1_Name ≠ b_2_Name))) || (decide (a_1_Text ≠ b_2_Text))) == false))) (hA50.get rfl) (hA50.get rfl) (fun he => g_mkf rfl he)) fun a51 hA51 _ => ?_)
  refine sq (opk_val hA51 rfl (r_move (hA51.get rfl)) fun a52 hA52 _ => ?_)
  refine sq (opk_gval hA52 rfl rfl (g := true) (e := ((((decide (a_1_Kind ≠ b_2_Kind)) || (decide (a_1_Name ≠ b_2_Name))) || (decide (a_1_Text ≠ b_2_Text))) || (decide ((a_1_Attrs.n : Int) ≠ (b_2_Attrs.n : Int))))) rfl (fun hg => r_fieldAddr (hA52.get rfl) Try.underlying26 rfl ti_24 (by decide)) fun a53 hA53 _ => ?_)
  refine sq (opk_gval hA53 rfl rfl (g := true) (e := ((((decide (a_1_Kind ≠ b_2_Kind)) || (decide (a_1_Name ≠ b_2_Name))) || (decide (a_1_Text ≠ b_2_Text))) || (decide ((a_1_Attrs.n : Int) ≠ (b_2_Attrs.n : Int))))) rfl (fun hg => r_load1 Try.underlying24 rfl (cv_get (hA53.get rfl) hg) (hB19.cell 4 _ rfl)) fun a54 hA54 _ => ?_)
  refine sq (opk_gval hA54 rfl rfl (g := true) (e := ((((decide (a_1_Kind ≠ b_2_Kind)) || (decide (a_1_Name ≠ b_2_Name))) || (decide (a_1_Text ≠ b_2_Text))) || (decide ((a_1_Attrs.n : Int) ≠ (b_2_Attrs.n : Int))))) rfl (fun hg => r_len (cv_get (hA54.get rfl) hg) Try.underlying24) fun a55 hA55 _ => ?_)
  refine sq (opk_gval hA55 rfl rfl (g := true) (e := ((((decide (a_1_Kind ≠ b_2_Kind)) || (decide (a_1_Name ≠ b_2_Name))) || (decide (a_1_Text ≠ b_2_Text))) || (decide ((a_1_Attrs.n : Int) ≠ (b_2_Attrs.n : Int))))) rfl (fun hg => r_fieldAddr (hA55.get rfl) Try.underlying26 rfl ti_24 (by decide)) fun a56 hA56 _ => ?_)
  refine sq (opk_gval hA56 rfl rfl (g := true) (e := ((((decide (a_1_Kind ≠ b_2_Kind)) || (decide (a_1_Name ≠ b_2_Name))) || (decide (a_1_Text ≠ b_2_Text))) || (decide ((a_1_Attrs.n : Int) ≠ (b_2_Attrs.n : Int))))) rfl (fun hg => r_load1 Try.underlying24 rfl (cv_get (hA56.get rfl) hg) (hB16.cell 4 _ rfl)) fun a57 hA57 _ => ?_)
  refine sq (opk_gval hA57 rfl rfl (g := true) (e := ((((decide (a_1_Kind ≠ b_2_Kind)) || (decide (a_1_Name ≠ b_2_Name))) || (decide (a_1_Text ≠ b_2_Text))) || (decide ((a_1_Attrs.n : Int) ≠ (b_2_Attrs.n : Int))))) rfl (fun hg => r_len (cv_get (hA57.get rfl) hg) Try.underlying24) fun a58 hA58 _ => ?_)
  refine sq (opk_gval hA58 rfl rfl (g := true) (e := ((((decide (a_1_Kind ≠ b_2_Kind)) || (decide (a_1_Name ≠ b_2_Name))) || (decide (a_1_Text ≠ b_2_Text))) || (decide ((a_1_Attrs.n : Int) ≠ (b_2_Attrs.n : Int))))) rfl (fun hg => r_neq (cv_get (hA58.get rfl) hg) (cv_get (hA58.get rfl) hg)) fun a59 hA59 _ => ?_)
  refine sq (opk_val hA59 rfl (r_pick_or (g := (true && (((((decide (a_1_Kind ≠ b_2_Kind)) || (decide (a_1_Name ≠ b_2_Name))) || (decide (a_1_Text ≠ b_2_Text))) || (decide ((a_1_Attrs.n : Int) ≠ (b_2_Attrs.n : Int)))) == false))) (hA59.get rfl) (hA59.get rfl) (fun he => g_mkf rfl he)) fun a60 hA60 _ => ?_)
  refine sq_end ?_
  have hA61 := hA60.keep [(2, .pointer (some (⟨B_3, 0, none⟩ : Addr))), (3, .pointer (some (⟨B_11, 0, none⟩ : Addr))), (45, .bool (((((decide (a_1_Kind ≠ b_2_Kind)) || (decide (a_1_Name ≠ b_2_Name))) || (decide (a_1_Text ≠ b_2_Text))) || (decide ((a_1_Attrs.n : Int) ≠ (b_2_Attrs.n : Int)))) || (decide ((a_1_Kids.n : Int) ≠ (b_2_Kids.n : Int)))))] ⟨rfl, rfl, rfl, trivial⟩
  refine then_normal ?_
  refine wp_cond_split (hA61.get rfl) (fun hc => ?_) (fun hc => ?_)
  · have ht62 := ht0.1 ((b_or_t hc).imp (fun h => ((b_or_t h).imp (fun h => ((b_or_t h).imp (fun h => ((b_or_t h).imp (fun h => (of_decide_eq_true h)) (fun h => (of_decide_eq_true h)))) (fun h => (of_decide_eq_true h)))) (fun h => (of_decide_eq_true h)))) (fun h => (of_decide_eq_true h)))
    clear hc
    refine wp_seq ?_
    refine wp_region_lit ?_
    refine sq (opk_val hA61 rfl (r_assign rfl) fun a64 hA64 _ => ?_)
    refine sq_end ?_
    have hA65 := hA64.keep [(4, .bool false)] ⟨rfl, trivial⟩
    refine then_normal ?_
    refine wp_ret ?_
    refine then_ret ?_
    have ht66 := ht62 w12 B_3 B_11 hN21 hN18 hne17 hC20
    exact res_all (vs := [.bool false]) rfl hA65 ⟨res_of_tmp hA65 rfl, trivial⟩ ht66
  · have ht63 := ht0.2 ⟨⟨⟨⟨(of_decide_eq_false (b_or_f (b_or_f (b_or_f (b_or_f hc).1).1).1).1), (of_decide_eq_false (b_or_f (b_or_f (b_or_f (b_or_f hc).1).1).1).2)⟩, (of_decide_eq_false (b_or_f (b_or_f (b_or_f hc).1).1).2)⟩, (of_decide_eq_false (b_or_f (b_or_f hc).1).2)⟩, (of_decide_eq_false (b_or_f hc).2)⟩
    clear hc
    refine wp_skip ?_
    refine then_normal ?_
    refine wp_seq ?_
    refine wp_seq ?_
    refine wp_region_lit ?_
    refine sq (opk_val hA61 rfl (r_fieldAddr (hA61.get rfl) Try.underlying26 rfl ti_23 (by decide)) fun a67 hA67 _ => ?_)
    refine sq (opk_val hA67 rfl (r_load1 Try.underlying23 rfl (hA67.get rfl) (hB19.cell 3 _ rfl)) fun a68 hA68 _ => ?_)
    refine sq (opk_val hA68 rfl (r_len (hA68.get rfl) Try.underlying23) fun a69 hA69 _ => ?_)
    refine sq (opk_val hA69 rfl (r_move rfl) fun a70 hA70 _ => ?_)
    refine sq_end ?_
    have hA71 := hA70.keep [(2, .pointer (some (⟨B_3, 0, none⟩ : Addr))), (3, .pointer (some (⟨B_11, 0, none⟩ : Addr))), (47, Sl.v a_1_Attrs), (48, .int .i64 (a_1_Attrs.n : Int)), (49, .int .i64 0)] ⟨rfl, rfl, rfl, rfl, rfl, trivial⟩
    refine then_normal ?_
    refine wp_block ?_
    have ht158 := ht63 w12 B_3 B_11 hN21 hN18 hne17 hC20
    obtain ⟨J_74, mu_75, h0163, ht162⟩ := ht158
    refine wp_loop_st (σ := Int × World) (fun s a w => Ag 79 a [(2, .pointer (some (⟨B_3, 0, none⟩ : Addr))), (3, .pointer (some (⟨B_11, 0, none⟩ : Addr))), (47, Sl.v a_1_Attrs), (48, .int .i64 (a_1_Attrs.n : Int)), (49, .int .i64 s.1)] ∧ Box w B_3 26 [.int .i64 a_1_Kind, .string (Bs a_1_Name), .string (Bs a_1_Text), Sl.v a_1_Attrs, Sl.v a_1_Kids] ∧ Box w B_11 26 [.int .i64 b_2_Kind, .string (Bs b_2_Name), .string (Bs b_2_Text), Sl.v b_2_Attrs, Sl.v b_2_Kids] ∧ w = s.2 ∧ J_74 s.1 s.2) (fun s => mu_75 s.1 s.2) (0, w12) ⟨hA71.keep [(2, .pointer (some (⟨B_3, 0, none⟩ : Addr))), (3, .pointer (some (⟨B_11, 0, none⟩ : Addr))), (47, Sl.v a_1_Attrs), (48, .int .i64 (a_1_Attrs.n : Int)), (49, .int .i64 0)] ⟨rfl, rfl, rfl, rfl, rfl, trivial⟩, hB19, hB16, rfl, h0163⟩ ?_
    rintro ⟨x_72, w73⟩ a159 w_ ⟨hA159, hB160, hB161, hw_, hJ165⟩
    have hw_ : w73 = w_ := hw_.symm
    subst hw_
    have ht164 := ht162 x_72 _ hJ165
    refine wp_seq ?_
    refine wp_region_lit ?_
    refine sq (opk_val hA159 rfl (r_lss (hA159.get rfl) (hA159.get rfl)) fun a166 hA166 _ => ?_)
    refine sq_end ?_
    have hA167 := hA166.keep [(2, .pointer (some (⟨B_3, 0, none⟩ : Addr))), (3, .pointer (some (⟨B_11, 0, none⟩ : Addr))), (47, Sl.v a_1_Attrs), (48, .int .i64 (a_1_Attrs.n : Int)), (49, .int .i64 x_72), (50, .bool (decide (x_72 < (a_1_Attrs.n : Int))))] ⟨rfl, rfl, rfl, rfl, rfl, rfl, trivial⟩
    refine then_normal ?_
    refine wp_seq ?_
    refine wp_cond_split (hA167.get rfl) (fun hc => ?_) (fun hc => ?_)
    · have ht168 := ht164.1 (of_decide_eq_true hc)
      clear hc
      refine wp_skip ?_
      refine then_normal ?_
      refine wp_seq ?_
      refine wp_block ?_
      refine wp_seq ?_
      refine wp_region_lit ?_
      refine sq (opk_val hA167 rfl (r_move (hA167.get rfl)) fun a170 hA170 _ => ?_)
      obtain ⟨hb172, p_171, hp173, ht174⟩ := ht168
      refine sq (opk_val hA170 rfl (r_indexAddr (hA170.get rfl) (hA170.get rfl) Try.underlying23 ti_33 hb172 hp173) fun a175 hA175 _ => ?_)
      obtain ⟨x_177_Name, x_177_Value, hx178, ht179⟩ := ht174
      refine sq (opk_val hA175 rfl (r_loadN Try.underlying33 rfl ti_33 (hA175.get rfl) hx178) fun a176 hA176 _ => ?_)
      refine sq (opk_new (fun B => .pointer (some ⟨B, 0, none⟩)) hA176 rfl (r_alloc (cs := [.string (Bs ([] : Str)), .string (Bs ([] : Str))]) ti_33 rfl) fun a182 w181 B_180 hE183 hN184 hB185 hA182 _ => ?_)
      have hne186 : B_3 ≠ B_180 := Nat.ne_of_lt (Nat.lt_of_lt_of_le hB160.lt hN184.ge)
      have hne187 : B_11 ≠ B_180 := Nat.ne_of_lt (Nat.lt_of_lt_of_le hB161.lt hN184.ge)
      have hN188 : New w73 B_180 w181 := hN184
      have hB189 := hB160.ext hE183
      have hB190 := hB161.ext hE183
      have hC191 : Chg [] w73 w181 := hE183
      refine sq (opk_val hA182 rfl (r_assign (hA182.get rfl)) fun a192 hA192 _ => ?_)
      refine sq (opk_store hA192 hB185 (r_store (vs := [.string (Bs x_177_Name), .string (Bs x_177_Value)]) (hA192.get rfl) (hA192.get rfl) rfl ti_33 hB185 rfl (ones_all [.string (Bs x_177_Name), .string (Bs x_177_Value)] rfl)) fun a194 w193 hS195 hB196 hA194 => ?_)
      have hB197 : Box w193 B_180 33 [.string (Bs x_177_Name), .string (Bs x_177_Value)] := hB196
      have hB198 := hB189.keep hS195 (by simpa using hne186)
      have hB199 := hB190.keep hS195 (by simpa using hne187)
      have hC200 := hC191.storeNew hN188 hS195
      have hN201 := hN188.up hS195.size
      refine sq_end ?_
      have hA202 := hA194.keep [(2, .pointer (some (⟨B_3, 0, none⟩ : Addr))), (3, .pointer (some (⟨B_11, 0, none⟩ : Addr))), (5, .int .i64 x_72), (6, .pointer (some (⟨B_180, 0, none⟩ : Addr))), (47, Sl.v a_1_Attrs), (48, .int .i64 (a_1_Attrs.n : Int)), (49, .int .i64 x_72)] ⟨rfl, rfl, rfl, rfl, rfl, rfl, rfl, trivial⟩
      refine then_normal ?_
      refine wp_seq ?_
      refine draw' (by kernel_rfl) fun w203 hE204 => ?_
      have hB205 := hB198.ext hE204
      have hB206 := hB199.ext hE204
      have hB207 := hB197.ext hE204
      have hC208 := hC200.more hE204
      have hN209 := hN201.up hE204.size
      have ht210 := ht179 w203 B_180 hN209  hC208
      obtain ⟨p_214, hp215, ht216⟩ := ht210
      obtain ⟨x_218_Name, x_218_Value, hx219, ht220⟩ := ht216
      refine par (D := [[], [], [1], [], [1, 2, 3], [1, 2, 3, 4], [0, 1, 2, 3, 4, 5]]) (S := [0, 1, 2, 3, 4, 5, 6]) (F := []) (V := VL [(0, fun v _ => v = .agg #[.string (Bs x_177_Name), .string (Bs x_177_Value)]), (1, fun v _ => v = .pointer (some (⟨B_11, 3, none⟩ : Addr))), (2, fun v _ => v = Sl.v b_2_Attrs), (3, fun v _ => v = .int .i64 x_72), (4, fun v _ => v = .pointer (some (p_214.add (x_72.toNat * 2)))), (5, fun v _ => v = .agg #[.string (Bs x_218_Name), .string (Bs x_218_Value)]), (6, fun v _ => v = .bool (decide (¬ (x_177_Name = x_218_Name ∧ x_177_Value = x_218_Value))))]) hA202 (by kernel_rfl) ⟨fun _ _ _ _ h => by first | exact h | (change _ = _ at h; change _ = _; exact h), fun _ _ _ _ h => by first | exact h | (change _ = _ at h; change _ = _; exact h), fun _ _ _ _ h => by first | exact h | (change _ = _ at h; change _ = _; exact h), fun _ _ _ _ h => by first | exact h | (change _ = _ at h; change _ = _; exact h), fun _ _ _ _ h => by first | exact h | (change _ = _ at h; change _ = _; exact h), fun _ _ _ _ h => by first | exact h | (change _ = _ at h; change _ = _; exact h), fun _ _ _ _ h => by first | exact h | (change _ = _ at h; change _ = _; exact h), trivial⟩ ⟨?_, ?_, ?_, ?_, ?_, ?_, ?_, trivial⟩ ?_
      · intro a w hT
        have hAp := hT.ag hA202 [(6, .pointer (some (⟨B_180, 0, none⟩ : Addr)))] ⟨rfl, trivial⟩ (by kernel_rfl)
        exact opk_val hAp rfl (r_loadN (cs := [.string (Bs x_177_Name), .string (Bs x_177_Value)]) Try.underlying33 rfl ti_33 (hAp.get rfl) ((hB207.ext hT.chg).part 0 _ rfl)) fun _ _ e => ⟨_, e, Chg.refl _ _, fun _ => Eq.refl _⟩
      · intro a w hT
        have hAp := hT.ag hA202 [(3, .pointer (some (⟨B_11, 0, none⟩ : Addr)))] ⟨rfl, trivial⟩ (by kernel_rfl)
        exact opk_val hAp rfl (r_fieldAddr (hAp.get rfl) Try.underlying26 rfl ti_23 (by decide)) fun _ _ e => ⟨_, e, Chg.refl _ _, fun _ => Eq.refl _⟩
      · intro a w hT
        have hAp := hT.ag hA202 [] trivial (by kernel_rfl)
        have e211 : a.tmps.getD 55 undef = .pointer (some (⟨B_11, 3, none⟩ : Addr)) := hT.vals 1 rfl 55 rfl
        have hAp := hAp.add e211
        exact opk_val hAp rfl (r_load1 Try.underlying23 rfl (hAp.get rfl) ((hB206.ext hT.chg).cell 3 _ rfl)) fun _ _ e => ⟨_, e, Chg.refl _ _, fun _ => Eq.refl _⟩
      · intro a w hT
        have hAp := hT.ag hA202 [(5, .int .i64 x_72)] ⟨rfl, trivial⟩ (by kernel_rfl)
        exact opk_val hAp rfl (r_move (hAp.get rfl)) fun _ _ e => ⟨_, e, Chg.refl _ _, fun _ => Eq.refl _⟩
      · intro a w hT
        have hAp := hT.ag hA202 [] trivial (by kernel_rfl)
        have e212 : a.tmps.getD 56 undef = Sl.v b_2_Attrs := hT.vals 2 rfl 56 rfl
        have hAp := hAp.add e212
        have e213 : a.tmps.getD 57 undef = .int .i64 x_72 := hT.vals 3 rfl 57 rfl
        have hAp := hAp.add e213
        exact opk_val hAp rfl (r_indexAddr (hAp.get rfl) (hAp.get rfl) Try.underlying23 ti_33 hp215.1 hp215.2) fun _ _ e => ⟨_, e, Chg.refl _ _, fun _ => Eq.refl _⟩
      · intro a w hT
        have hAp := hT.ag hA202 [] trivial (by kernel_rfl)
        have e217 : a.tmps.getD 58 undef = .pointer (some (p_214.add (x_72.toNat * 2))) := hT.vals 4 rfl 58 rfl
        have hAp := hAp.add e217
        exact opk_val hAp rfl (r_loadN Try.underlying33 rfl ti_33 (hAp.get rfl) (hx219.ext hT.chg)) fun _ _ e => ⟨_, e, Chg.refl _ _, fun _ => Eq.refl _⟩
      · intro a w hT
        have hAp := hT.ag hA202 [] trivial (by kernel_rfl)
        have e221 : a.tmps.getD 54 undef = .agg #[.string (Bs x_177_Name), .string (Bs x_177_Value)] := hT.vals 0 rfl 54 rfl
        have hAp := hAp.add e221
        have e222 : a.tmps.getD 59 undef = .agg #[.string (Bs x_218_Name), .string (Bs x_218_Value)] := hT.vals 5 rfl 59 rfl
        have hAp := hAp.add e222
        exact opk_val hAp rfl (r_aneqd (hAp.get rfl) (hAp.get rfl) (eq_33 _ _ _ _)) fun _ _ e => ⟨_, e, Chg.refl _ _, fun _ => Eq.refl _⟩
      · intro a223 w224 hE225 hag226 hv227
        have hA223 := hag226 [(2, .pointer (some (⟨B_3, 0, none⟩ : Addr))), (3, .pointer (some (⟨B_11, 0, none⟩ : Addr))), (47, Sl.v a_1_Attrs), (48, .int .i64 (a_1_Attrs.n : Int)), (49, .int .i64 x_72)] ⟨rfl, rfl, rfl, rfl, rfl, trivial⟩ (by kernel_rfl)
        have e229 : a223.tmps.getD 60 undef = .bool (decide (¬ (x_177_Name = x_218_Name ∧ x_177_Value = x_218_Value))) := hv227 6 rfl 60 rfl
        have hA230 := hA223.add e229
        have hB231 := hB205.ext hE225
        have hB232 := hB206.ext hE225
        have hB233 := hB207.ext hE225
        have hC234 : Chg [] w203 w224 := hE225
        refine PR_end (by kernel_rfl) ?_
        have hA235 := hA230.keep [(2, .pointer (some (⟨B_3, 0, none⟩ : Addr))), (3, .pointer (some (⟨B_11, 0, none⟩ : Addr))), (47, Sl.v a_1_Attrs), (48, .int .i64 (a_1_Attrs.n : Int)), (49, .int .i64 x_72), (60, .bool (decide (¬ (x_177_Name = x_218_Name ∧ x_177_Value = x_218_Value))))] ⟨rfl, rfl, rfl, rfl, rfl, rfl, trivial⟩
        refine then_normal ?_
        refine wp_cond_split (hA235.get rfl) (fun hc => ?_) (fun hc => ?_)
        · have ht236 := ht220.1 (of_decide_eq_true hc)
          clear hc
          refine wp_seq ?_
          refine wp_region_lit ?_
          refine sq (opk_val hA235 rfl (r_assign rfl) fun a238 hA238 _ => ?_)
          refine sq_end ?_
          have hA239 := hA238.keep [(4, .bool false)] ⟨rfl, trivial⟩
          refine then_normal ?_
          refine wp_ret ?_
          refine block_ret ?_
          refine then_ret ?_
          refine then_ret ?_
          refine block_ret ?_
          refine then_ret ?_
          have ht240 := ht236 w224    hC234
          exact res_all (vs := [.bool false]) rfl hA239 ⟨res_of_tmp hA239 rfl, trivial⟩ ht240
        · have ht237 := ht220.2 (of_decide_eq_false hc)
          clear hc
          refine wp_skip ?_
          refine block_normal ?_
          refine then_normal ?_
          refine wp_region_lit ?_
          obtain ⟨hS242, ht243⟩ := ht237
          refine sq (opk_val hA235 rfl (r_addI (hA235.get rfl) rfl hS242) fun a241 hA241 _ => ?_)
          refine sq (opk_val hA241 rfl (r_move (hA241.get rfl)) fun a244 hA244 _ => ?_)
          refine sq_end ?_
          have hA245 := hA244.keep [(2, .pointer (some (⟨B_3, 0, none⟩ : Addr))), (3, .pointer (some (⟨B_11, 0, none⟩ : Addr))), (47, Sl.v a_1_Attrs), (48, .int .i64 (a_1_Attrs.n : Int)), (49, .int .i64 (x_72 + 1))] ⟨rfl, rfl, rfl, rfl, rfl, trivial⟩
          have ht246 := ht243 w224    hC234
          have hA247 := hA245.keep [(2, .pointer (some (⟨B_3, 0, none⟩ : Addr))), (3, .pointer (some (⟨B_11, 0, none⟩ : Addr))), (47, Sl.v a_1_Attrs), (48, .int .i64 (a_1_Attrs.n : Int)), (49, .int .i64 (x_72 + 1))] ⟨rfl, rfl, rfl, rfl, rfl, trivial⟩
          exact then_normal ⟨(x_72 + 1, w224), ⟨hA247, hB231, hB232, rfl, ht246.1⟩, ht246.2⟩
    · have ht169 := ht164.2 (of_decide_eq_false hc)
      clear hc
      refine wp_exit ?_
      refine then_exit ?_
      refine then_exit ?_
      refine block_hit ?_
      have hA248 := hA167.keep [(2, .pointer (some (⟨B_3, 0, none⟩ : Addr))), (3, .pointer (some (⟨B_11, 0, none⟩ : Addr)))] ⟨rfl, rfl, trivial⟩
      refine then_normal ?_
      refine wp_seq ?_
      refine wp_seq ?_
      refine wp_region_lit ?_
      refine sq (opk_val hA248 rfl (r_fieldAddr (hA248.get rfl) Try.underlying26 rfl ti_24 (by decide)) fun a249 hA249 _ => ?_)
      refine sq (opk_val hA249 rfl (r_load1 Try.underlying24 rfl (hA249.get rfl) (hB160.cell 4 _ rfl)) fun a250 hA250 _ => ?_)
      refine sq (opk_val hA250 rfl (r_len (hA250.get rfl) Try.underlying24) fun a251 hA251 _ => ?_)
      refine sq (opk_val hA251 rfl (r_move rfl) fun a252 hA252 _ => ?_)
      refine sq_end ?_
      have hA253 := hA252.keep [(3, .pointer (some (⟨B_11, 0, none⟩ : Addr))), (63, Sl.v a_1_Kids), (64, .int .i64 (a_1_Kids.n : Int)), (65, .int .i64 0)] ⟨rfl, rfl, rfl, rfl, trivial⟩
      refine then_normal ?_
      refine wp_block ?_
      obtain ⟨J_256, mu_257, h0341, ht340⟩ := ht169
      refine wp_loop_st (σ := Int × World) (fun s a w => Ag 79 a [(3, .pointer (some (⟨B_11, 0, none⟩ : Addr))), (63, Sl.v a_1_Kids), (64, .int .i64 (a_1_Kids.n : Int)), (65, .int .i64 s.1)] ∧ Box w B_11 26 [.int .i64 b_2_Kind, .string (Bs b_2_Name), .string (Bs b_2_Text), Sl.v b_2_Attrs, Sl.v b_2_Kids] ∧ w = s.2 ∧ J_256 s.1 s.2) (fun s => mu_257 s.1 s.2) (0, w73) ⟨hA253.keep [(3, .pointer (some (⟨B_11, 0, none⟩ : Addr))), (63, Sl.v a_1_Kids), (64, .int .i64 (a_1_Kids.n : Int)), (65, .int .i64 0)] ⟨rfl, rfl, rfl, rfl, trivial⟩, hB161, rfl, h0341⟩ ?_
      rintro ⟨x_254, w255⟩ a338 w_ ⟨hA338, hB339, hw_, hJ343⟩
      have hw_ : w255 = w_ := hw_.symm
      subst hw_
      have ht342 := ht340 x_254 _ hJ343
      refine wp_seq ?_
      refine wp_region_lit ?_
      refine sq (opk_val hA338 rfl (r_lss (hA338.get rfl) (hA338.get rfl)) fun a344 hA344 _ => ?_)
      refine sq_end ?_
      have hA345 := hA344.keep [(3, .pointer (some (⟨B_11, 0, none⟩ : Addr))), (63, Sl.v a_1_Kids), (64, .int .i64 (a_1_Kids.n : Int)), (65, .int .i64 x_254), (66, .bool (decide (x_254 < (a_1_Kids.n : Int))))] ⟨rfl, rfl, rfl, rfl, rfl, trivial⟩
      refine then_normal ?_
      refine wp_seq ?_
      refine wp_cond_split (hA345.get rfl) (fun hc => ?_) (fun hc => ?_)
      · have ht346 := ht342.1 (of_decide_eq_true hc)
        clear hc
        refine wp_skip ?_
        refine then_normal ?_
        refine wp_seq ?_
        refine wp_block ?_
        refine wp_seq ?_
        refine wp_region_lit ?_
        refine sq (opk_val hA345 rfl (r_move (hA345.get rfl)) fun a348 hA348 _ => ?_)
        obtain ⟨hb350, p_349, hp351, ht352⟩ := ht346
        refine sq (opk_val hA348 rfl (r_indexAddr (hA348.get rfl) (hA348.get rfl) Try.underlying24 ti_26 hb350 hp351) fun a353 hA353 _ => ?_)
        obtain ⟨x_355_Kind, x_355_Name, x_355_Text, x_355_Attrs, x_355_Kids, hx356, ht357⟩ := ht352
        refine sq (opk_val hA353 rfl (r_loadN Try.underlying26 rfl ti_26 (hA353.get rfl) hx356) fun a354 hA354 _ => ?_)
        refine sq (opk_new (fun B => .pointer (some ⟨B, 0, none⟩)) hA354 rfl (r_alloc (cs := [.int .i64 0, .string (Bs ([] : Str)), .string (Bs ([] : Str)), Sl.v Sl.nil, Sl.v Sl.nil]) ti_26 rfl) fun a360 w359 B_358 hE361 hN362 hB363 hA360 _ => ?_)
        have hne364 : B_11 ≠ B_358 := Nat.ne_of_lt (Nat.lt_of_lt_of_le hB339.lt hN362.ge)
        have hN365 : New w255 B_358 w359 := hN362
        have hB366 := hB339.ext hE361
        have hC367 : Chg [] w255 w359 := hE361
        refine sq (opk_val hA360 rfl (r_assign (hA360.get rfl)) fun a368 hA368 _ => ?_)
        refine sq (opk_store hA368 hB363 (r_store (vs := [.int .i64 x_355_Kind, .string (Bs x_355_Name), .string (Bs x_355_Text), Sl.v x_355_Attrs, Sl.v x_355_Kids]) (hA368.get rfl) (hA368.get rfl) rfl ti_26 hB363 rfl (ones_all [.int .i64 x_355_Kind, .string (Bs x_355_Name), .string (Bs x_355_Text), Sl.v x_355_Attrs, Sl.v x_355_Kids] rfl)) fun a370 w369 hS371 hB372 hA370 => ?_)
        have hB373 : Box w369 B_358 26 [.int .i64 x_355_Kind, .string (Bs x_355_Name), .string (Bs x_355_Text), Sl.v x_355_Attrs, Sl.v x_355_Kids] := hB372
        have hB374 := hB366.keep hS371 (by simpa using hne364)
        have hC375 := hC367.storeNew hN365 hS371
        have hN376 := hN365.up hS371.size
        refine sq_end ?_
        have hA377 := hA370.keep [(3, .pointer (some (⟨B_11, 0, none⟩ : Addr))), (7, .int .i64 x_254), (8, .pointer (some (⟨B_358, 0, none⟩ : Addr))), (63, Sl.v a_1_Kids), (64, .int .i64 (a_1_Kids.n : Int)), (65, .int .i64 x_254)] ⟨rfl, rfl, rfl, rfl, rfl, rfl, trivial⟩
        refine then_normal ?_
        refine wp_seq ?_
        refine draw' (by kernel_rfl) fun w378 hE379 => ?_
        have hB380 := hB374.ext hE379
        have hB381 := hB373.ext hE379
        have hC382 := hC375.more hE379
        have hN383 := hN376.up hE379.size
        have ht384 := ht357 w378 B_358 hN383  hC382
        obtain ⟨p_388, hp389, ht390⟩ := ht384
        obtain ⟨x_392_Kind, x_392_Name, x_392_Text, x_392_Attrs, x_392_Kids, hx393, ht394⟩ := ht390
        obtain ⟨r_397, hc398, ht399⟩ := ht394
        refine par (D := [[], [], [1], [], [1, 2, 3], [1, 2, 3, 4], [0, 1, 2, 3, 4, 5], [0, 1, 2, 3, 4, 5, 6]]) (S := [0, 1, 2, 3, 4, 5, 6, 7]) (F := []) (V := VL [(0, fun v _ => v = .agg #[.int .i64 x_355_Kind, .string (Bs x_355_Name), .string (Bs x_355_Text), Sl.v x_355_Attrs, Sl.v x_355_Kids]), (1, fun v _ => v = .pointer (some (⟨B_11, 4, none⟩ : Addr))), (2, fun v _ => v = Sl.v b_2_Kids), (3, fun v _ => v = .int .i64 x_254), (4, fun v _ => v = .pointer (some (p_388.add (x_254.toNat * 5)))), (5, fun v _ => v = .agg #[.int .i64 x_392_Kind, .string (Bs x_392_Name), .string (Bs x_392_Text), Sl.v x_392_Attrs, Sl.v x_392_Kids]), (6, fun v _ => v = .bool r_397), (7, fun v _ => v = .bool (!r_397))]) hA377 (by kernel_rfl) ⟨fun _ _ _ _ h => by first | exact h | (change _ = _ at h; change _ = _; exact h), fun _ _ _ _ h => by first | exact h | (change _ = _ at h; change _ = _; exact h), fun _ _ _ _ h => by first | exact h | (change _ = _ at h; change _ = _; exact h), fun _ _ _ _ h => by first | exact h | (change _ = _ at h; change _ = _; exact h), fun _ _ _ _ h => by first | exact h | (change _ = _ at h; change _ = _; exact h), fun _ _ _ _ h => by first | exact h | (change _ = _ at h; change _ = _; exact h), fun _ _ _ _ h => by first | exact h | (change _ = _ at h; change _ = _; exact h), fun _ _ _ _ h => by first | exact h | (change _ = _ at h; change _ = _; exact h), trivial⟩ ⟨?_, ?_, ?_, ?_, ?_, ?_, ?_, ?_, trivial⟩ ?_
        · intro a w hT
          have hAp := hT.ag hA377 [(8, .pointer (some (⟨B_358, 0, none⟩ : Addr)))] ⟨rfl, trivial⟩ (by kernel_rfl)
          exact opk_val hAp rfl (r_loadN (cs := [.int .i64 x_355_Kind, .string (Bs x_355_Name), .string (Bs x_355_Text), Sl.v x_355_Attrs, Sl.v x_355_Kids]) Try.underlying26 rfl ti_26 (hAp.get rfl) ((hB381.ext hT.chg).part 0 _ rfl)) fun _ _ e => ⟨_, e, Chg.refl _ _, fun _ => Eq.refl _⟩
        · intro a w hT
          have hAp := hT.ag hA377 [(3, .pointer (some (⟨B_11, 0, none⟩ : Addr)))] ⟨rfl, trivial⟩ (by kernel_rfl)
          exact opk_val hAp rfl (r_fieldAddr (hAp.get rfl) Try.underlying26 rfl ti_24 (by decide)) fun _ _ e => ⟨_, e, Chg.refl _ _, fun _ => Eq.refl _⟩
        · intro a w hT
          have hAp := hT.ag hA377 [] trivial (by kernel_rfl)
          have e385 : a.tmps.getD 71 undef = .pointer (some (⟨B_11, 4, none⟩ : Addr)) := hT.vals 1 rfl 71 rfl
          have hAp := hAp.add e385
          exact opk_val hAp rfl (r_load1 Try.underlying24 rfl (hAp.get rfl) ((hB380.ext hT.chg).cell 4 _ rfl)) fun _ _ e => ⟨_, e, Chg.refl _ _, fun _ => Eq.refl _⟩
        · intro a w hT
          have hAp := hT.ag hA377 [(7, .int .i64 x_254)] ⟨rfl, trivial⟩ (by kernel_rfl)
          exact opk_val hAp rfl (r_move (hAp.get rfl)) fun _ _ e => ⟨_, e, Chg.refl _ _, fun _ => Eq.refl _⟩
        · intro a w hT
          have hAp := hT.ag hA377 [] trivial (by kernel_rfl)
          have e386 : a.tmps.getD 72 undef = Sl.v b_2_Kids := hT.vals 2 rfl 72 rfl
          have hAp := hAp.add e386
          have e387 : a.tmps.getD 73 undef = .int .i64 x_254 := hT.vals 3 rfl 73 rfl
          have hAp := hAp.add e387
          exact opk_val hAp rfl (r_indexAddr (hAp.get rfl) (hAp.get rfl) Try.underlying24 ti_26 hp389.1 hp389.2) fun _ _ e => ⟨_, e, Chg.refl _ _, fun _ => Eq.refl _⟩
        · intro a w hT
          have hAp := hT.ag hA377 [] trivial (by kernel_rfl)
          have e391 : a.tmps.getD 74 undef = .pointer (some (p_388.add (x_254.toNat * 5))) := hT.vals 4 rfl 74 rfl
          have hAp := hAp.add e391
          exact opk_val hAp rfl (r_loadN Try.underlying26 rfl ti_26 (hAp.get rfl) (hx393.ext hT.chg)) fun _ _ e => ⟨_, e, Chg.refl _ _, fun _ => Eq.refl _⟩
        · intro a w hT
          have hAp := hT.ag hA377 [] trivial (by kernel_rfl)
          have e395 : a.tmps.getD 70 undef = .agg #[.int .i64 x_355_Kind, .string (Bs x_355_Name), .string (Bs x_355_Text), Sl.v x_355_Attrs, Sl.v x_355_Kids] := hT.vals 0 rfl 70 rfl
          have hAp := hAp.add e395
          have e396 : a.tmps.getD 75 undef = .agg #[.int .i64 x_392_Kind, .string (Bs x_392_Name), .string (Bs x_392_Text), Sl.v x_392_Attrs, Sl.v x_392_Kids] := hT.vals 5 rfl 75 rfl
          have hAp := hAp.add e396
          exact opk_callX hAp rfl (r_call (args := #[.agg #[.int .i64 x_355_Kind, .string (Bs x_355_Name), .string (Bs x_355_Text), Sl.v x_355_Attrs, Sl.v x_355_Kids], .agg #[.int .i64 x_392_Kind, .string (Bs x_392_Name), .string (Bs x_392_Text), Sl.v x_392_Attrs, Sl.v x_392_Kids]]) Try.func25 (by decide) rfl (map_arr (ml_cons (hAp.get rfl) (ml_cons (hAp.get rfl) ml_nil))) rfl) (hc398 w hT.chg) fun _ _ _ _ e hR => ⟨_, e, hR.1, fun _ => hR.2⟩
        · intro a w hT
          have hAp := hT.ag hA377 [] trivial (by kernel_rfl)
          have e400 : a.tmps.getD 76 undef = .bool r_397 := hT.vals 6 rfl 76 rfl
          have hAp := hAp.add e400
          exact opk_val hAp rfl (r_not (hAp.get rfl)) fun _ _ e => ⟨_, e, Chg.refl _ _, fun _ => Eq.refl _⟩
        · intro a401 w402 hE403 hag404 hv405
          have hA401 := hag404 [(3, .pointer (some (⟨B_11, 0, none⟩ : Addr))), (63, Sl.v a_1_Kids), (64, .int .i64 (a_1_Kids.n : Int)), (65, .int .i64 x_254)] ⟨rfl, rfl, rfl, rfl, trivial⟩ (by kernel_rfl)
          have e407 : a401.tmps.getD 77 undef = .bool (!r_397) := hv405 7 rfl 77 rfl
          have hA408 := hA401.add e407
          have hB409 := hB380.ext hE403
          have hB410 := hB381.ext hE403
          have hC411 : Chg [] w378 w402 := hE403
          refine PR_end (by kernel_rfl) ?_
          have hA412 := hA408.keep [(3, .pointer (some (⟨B_11, 0, none⟩ : Addr))), (63, Sl.v a_1_Kids), (64, .int .i64 (a_1_Kids.n : Int)), (65, .int .i64 x_254), (77, .bool (!r_397))] ⟨rfl, rfl, rfl, rfl, rfl, trivial⟩
          refine then_normal ?_
          refine wp_cond_split (hA412.get rfl) (fun hc => ?_) (fun hc => ?_)
          · have ht413 := ht399.1 (b_not_t hc)
            clear hc
            refine wp_seq ?_
            refine wp_region_lit ?_
            refine sq (opk_val hA412 rfl (r_assign rfl) fun a415 hA415 _ => ?_)
            refine sq_end ?_
            have hA416 := hA415.keep [(4, .bool false)] ⟨rfl, trivial⟩
            refine then_normal ?_
            refine wp_ret ?_
            refine block_ret ?_
            refine then_ret ?_
            refine then_ret ?_
            refine block_ret ?_
            refine then_ret ?_
            have ht417 := ht413 w402    hC411
            exact res_all (vs := [.bool false]) rfl hA416 ⟨res_of_tmp hA416 rfl, trivial⟩ ht417
          · have ht414 := ht399.2 (b_not_f hc)
            clear hc
            refine wp_skip ?_
            refine block_normal ?_
            refine then_normal ?_
            refine wp_region_lit ?_
            obtain ⟨hS419, ht420⟩ := ht414
            refine sq (opk_val hA412 rfl (r_addI (hA412.get rfl) rfl hS419) fun a418 hA418 _ => ?_)
            refine sq (opk_val hA418 rfl (r_move (hA418.get rfl)) fun a421 hA421 _ => ?_)
            refine sq_end ?_
            have hA422 := hA421.keep [(3, .pointer (some (⟨B_11, 0, none⟩ : Addr))), (63, Sl.v a_1_Kids), (64, .int .i64 (a_1_Kids.n : Int)), (65, .int .i64 (x_254 + 1))] ⟨rfl, rfl, rfl, rfl, trivial⟩
            have ht423 := ht420 w402    hC411
            have hA424 := hA422.keep [(3, .pointer (some (⟨B_11, 0, none⟩ : Addr))), (63, Sl.v a_1_Kids), (64, .int .i64 (a_1_Kids.n : Int)), (65, .int .i64 (x_254 + 1))] ⟨rfl, rfl, rfl, rfl, trivial⟩
            exact then_normal ⟨(x_254 + 1, w402), ⟨hA424, hB409, rfl, ht423.1⟩, ht423.2⟩
      · have ht347 := ht342.2 (of_decide_eq_false hc)
        clear hc
        refine wp_exit ?_
        refine then_exit ?_
        refine then_exit ?_
        refine block_hit ?_
        have hA425 := hA345.keep [] trivial
        refine then_normal ?_
        refine wp_seq ?_
        refine wp_region_lit ?_
        refine sq (opk_val hA425 rfl (r_assign rfl) fun a426 hA426 _ => ?_)
        refine sq_end ?_
        have hA427 := hA426.keep [(4, .bool true)] ⟨rfl, trivial⟩
        refine then_normal ?_
        refine wp_ret ?_
        exact res_all (vs := [.bool true]) rfl hA427 ⟨res_of_tmp hA427 rfl, trivial⟩ ht347

/-- The condition of topiary/tree.empty. -/
def tree_empty.vc (l_1 : Sl) (R : Value → World → Prop) (w : World) : Prop :=
∃ (J_10 : Int → World → Prop) (mu_11 : Int → World → Nat),
J_10 0 w ∧
(∀ (x_8 : Int) (w9 : World), J_10 x_8 w9 →
((x_8 < (l_1.n : Int)) →
((0 : Int) ≤ x_8 ∧ x_8 < (l_1.n : Int)) ∧ ∃ p_49 : Addr, l_1.a = some p_49 ∧
∃ (x_55 : Str), (w9.cell? (p_49.add (x_8.toNat * 1)) = some (.string (Bs x_55))) ∧
((x_55 ≠ ([] : Str)) →
R (.bool false) w9) ∧
((¬ (x_55 ≠ ([] : Str))) →
(I64 (x_8 + 1)) ∧
J_10 (x_8 + 1) w9 ∧ mu_11 (x_8 + 1) w9 < mu_11 x_8 w9)) ∧
((¬ (x_8 < (l_1.n : Int))) →
R (.bool true) w9))
set_option maxHeartbeats 1000000 in
set_option maxRecDepth 10000 in
theorem tree_empty.ok (l_1 : Sl) {R : Value → World → Prop} {w : World} (ht0 : tree_empty.vc l_1 R w) : Calls Try.prog 36 #[Sl.v l_1] w (Ret R) := by
  refine enter [Sl.v l_1] Try.func36 rfl Try.ntmps36 rfl ?_
  intro a0 hA0
  unfold tree_empty.vc at ht0
  refine wp_seq ?_
  refine wp_region_lit ?_
  refine sq (opk_val hA0 rfl (r_assign rfl) fun a2 hA2 _ => ?_)
  refine sq_end ?_
  have hA3 := hA2.keep [(0, Sl.v l_1)] ⟨rfl, trivial⟩
  refine then_normal ?_
  refine wp_seq ?_
  refine wp_seq ?_
  refine wp_region_lit ?_
  refine sq (opk_val hA3 rfl (r_move (hA3.get rfl)) fun a4 hA4 _ => ?_)
  refine sq (opk_val hA4 rfl (r_len (hA4.get rfl) Try.underlying61) fun a5 hA5 _ => ?_)
  refine sq (opk_val hA5 rfl (r_move rfl) fun a6 hA6 _ => ?_)
  refine sq_end ?_
  have hA7 := hA6.keep [(5, Sl.v l_1), (6, .int .i64 (l_1.n : Int)), (7, .int .i64 0)] ⟨rfl, rfl, rfl, trivial⟩
  refine then_normal ?_
  refine wp_block ?_
  obtain ⟨J_10, mu_11, h042, ht41⟩ := ht0
  refine wp_loop_st (σ := Int × World) (fun s a w => Ag 14 a [(5, Sl.v l_1), (6, .int .i64 (l_1.n : Int)), (7, .int .i64 s.1)] ∧ w = s.2 ∧ J_10 s.1 s.2) (fun s => mu_11 s.1 s.2) (0, w) ⟨hA7.keep [(5, Sl.v l_1), (6, .int .i64 (l_1.n : Int)), (7, .int .i64 0)] ⟨rfl, rfl, rfl, trivial⟩, rfl, h042⟩ ?_
  rintro ⟨x_8, w9⟩ a40 w_ ⟨hA40, hw_, hJ44⟩
  have hw_ : w9 = w_ := hw_.symm
  subst hw_
  have ht43 := ht41 x_8 _ hJ44
  refine wp_seq ?_
  refine wp_region_lit ?_
  refine sq (opk_val hA40 rfl (r_lss (hA40.get rfl) (hA40.get rfl)) fun a45 hA45 _ => ?_)
  refine sq_end ?_
  have hA46 := hA45.keep [(5, Sl.v l_1), (6, .int .i64 (l_1.n : Int)), (7, .int .i64 x_8), (8, .bool (decide (x_8 < (l_1.n : Int))))] ⟨rfl, rfl, rfl, rfl, trivial⟩
  refine then_normal ?_
  refine wp_seq ?_
  refine wp_cond_split (hA46.get rfl) (fun hc => ?_) (fun hc => ?_)
  · have ht47 := ht43.1 (of_decide_eq_true hc)
    clear hc
    refine wp_skip ?_
    refine then_normal ?_
    refine wp_seq ?_
    refine wp_block ?_
    refine wp_seq ?_
    refine wp_region_lit ?_
    obtain ⟨hb50, p_49, hp51, ht52⟩ := ht47
    refine sq (opk_val hA46 rfl (r_indexAddr (hA46.get rfl) (hA46.get rfl) Try.underlying61 ti_9 hb50 hp51) fun a53 hA53 _ => ?_)
    obtain ⟨x_55, hx56, ht57⟩ := ht52
    refine sq (opk_val hA53 rfl (r_load1 Try.underlying9 rfl (hA53.get rfl) hx56) fun a54 hA54 _ => ?_)
    refine sq (opk_val hA54 rfl (r_assign (hA54.get rfl)) fun a58 hA58 _ => ?_)
    refine sq_end ?_
    have hA59 := hA58.keep [(4, .string (Bs x_55)), (5, Sl.v l_1), (6, .int .i64 (l_1.n : Int)), (7, .int .i64 x_8)] ⟨rfl, rfl, rfl, rfl, trivial⟩
    refine then_normal ?_
    refine wp_seq ?_
    refine wp_region_lit ?_
    refine sq (opk_val hA59 rfl (r_move (hA59.get rfl)) fun a60 hA60 _ => ?_)
    refine sq (opk_val hA60 rfl (r_sneq (hA60.get rfl) rfl) fun a61 hA61 _ => ?_)
    refine sq_end ?_
    have hA62 := hA61.keep [(5, Sl.v l_1), (6, .int .i64 (l_1.n : Int)), (7, .int .i64 x_8), (12, .bool (decide (x_55 ≠ ([] : Str))))] ⟨rfl, rfl, rfl, rfl, trivial⟩
    refine then_normal ?_
    refine wp_cond_split (hA62.get rfl) (fun hc => ?_) (fun hc => ?_)
    · have ht63 := ht57.1 (of_decide_eq_true hc)
      clear hc
      refine wp_seq ?_
      refine wp_region_lit ?_
      refine sq (opk_val hA62 rfl (r_assign rfl) fun a65 hA65 _ => ?_)
      refine sq_end ?_
      have hA66 := hA65.keep [(2, .bool false)] ⟨rfl, trivial⟩
      refine then_normal ?_
      refine wp_ret ?_
      refine block_ret ?_
      refine then_ret ?_
      refine then_ret ?_
      refine block_ret ?_
      refine then_ret ?_
      exact res_all (vs := [.bool false]) rfl hA66 ⟨res_of_tmp hA66 rfl, trivial⟩ ht63
    · have ht64 := ht57.2 (of_decide_eq_false hc)
      clear hc
      refine wp_skip ?_
      refine block_normal ?_
      refine then_normal ?_
      refine wp_region_lit ?_
      obtain ⟨hS68, ht69⟩ := ht64
      refine sq (opk_val hA62 rfl (r_addI (hA62.get rfl) rfl hS68) fun a67 hA67 _ => ?_)
      refine sq (opk_val hA67 rfl (r_move (hA67.get rfl)) fun a70 hA70 _ => ?_)
      refine sq_end ?_
      have hA71 := hA70.keep [(5, Sl.v l_1), (6, .int .i64 (l_1.n : Int)), (7, .int .i64 (x_8 + 1))] ⟨rfl, rfl, rfl, trivial⟩
      have hA72 := hA71.keep [(5, Sl.v l_1), (6, .int .i64 (l_1.n : Int)), (7, .int .i64 (x_8 + 1))] ⟨rfl, rfl, rfl, trivial⟩
      exact then_normal ⟨(x_8 + 1, w9), ⟨hA72, rfl, ht69.1⟩, ht69.2⟩
  · have ht48 := ht43.2 (of_decide_eq_false hc)
    clear hc
    refine wp_exit ?_
    refine then_exit ?_
    refine then_exit ?_
    refine block_hit ?_
    have hA73 := hA46.keep [] trivial
    refine then_normal ?_
    refine wp_seq ?_
    refine wp_region_lit ?_
    refine sq (opk_val hA73 rfl (r_assign rfl) fun a74 hA74 _ => ?_)
    refine sq_end ?_
    have hA75 := hA74.keep [(2, .bool true)] ⟨rfl, trivial⟩
    refine then_normal ?_
    refine wp_ret ?_
    exact res_all (vs := [.bool true]) rfl hA75 ⟨res_of_tmp hA75 rfl, trivial⟩ ht48

/-- The condition of topiary/tree.kids. -/
def tree_kids.vc (t_1_Kind : Int) (t_1_Name : Str) (t_1_Text : Str) (t_1_Attrs : Sl) (t_1_Kids : Sl) (R : Value → World → Prop) (w : World) : Prop :=
∀ (w3 : World) (B_2 : Nat), New w B_2 w3 → Chg [] w w3 →
∃ (J_19 : Int → World → Prop) (mu_20 : Int → World → Nat),
J_19 0 w3 ∧
(∀ (x_17 : Int) (w18 : World), J_19 x_17 w18 →
((x_17 < (t_1_Kids.n : Int)) →
((0 : Int) ≤ x_17 ∧ x_17 < (t_1_Kids.n : Int)) ∧ ∃ p_99 : Addr, t_1_Kids.a = some p_99 ∧
∃ (x_105_Kind : Int) (x_105_Name : Str) (x_105_Text : Str) (x_105_Attrs : Sl) (x_105_Kids : Sl), (Cells w18 (p_99.add (x_17.toNat * 5)) [.int .i64 x_105_Kind, .string (Bs x_105_Name), .string (Bs x_105_Text), Sl.v x_105_Attrs, Sl.v x_105_Kids]) ∧
∀ (w118 : World) (B_108 : Nat), New w18 B_108 w118 → Chg [] w18 w118 →
CallK Try.prog 47 #[.agg #[.int .i64 x_105_Kind, .string (Bs x_105_Name), .string (Bs x_105_Text), Sl.v x_105_Attrs, Sl.v x_105_Kids]] w118 [B_2, B_108] (fun v w131 => ∃ (r_129 : Bool), v = .bool r_129 ∧
(((r_129 = false) ∨ ((x_105_Kind = 5) ∧ (t_1_Kind ≠ 1))) →
R (.bool false) w131) ∧
(((r_129 = true) ∧ ((¬ (x_105_Kind = 5)) ∨ (¬ (t_1_Kind ≠ 1)))) →
(I64 (x_17 + 1)) ∧
J_19 (x_17 + 1) w131 ∧ mu_20 (x_17 + 1) w131 < mu_20 x_17 w18))) ∧
((¬ (x_17 < (t_1_Kids.n : Int))) →
R (.bool true) w18))
set_option maxHeartbeats 1000000 in
set_option maxRecDepth 10000 in
theorem tree_kids.ok (t_1_Kind : Int) (t_1_Name : Str) (t_1_Text : Str) (t_1_Attrs : Sl) (t_1_Kids : Sl) {R : Value → World → Prop} {w : World} (ht0 : tree_kids.vc t_1_Kind t_1_Name t_1_Text t_1_Attrs t_1_Kids R w) : Calls Try.prog 37 #[.agg #[.int .i64 t_1_Kind, .string (Bs t_1_Name), .string (Bs t_1_Text), Sl.v t_1_Attrs, Sl.v t_1_Kids]] w (Ret R) := by
  refine enter [.agg #[.int .i64 t_1_Kind, .string (Bs t_1_Name), .string (Bs t_1_Text), Sl.v t_1_Attrs, Sl.v t_1_Kids]] Try.func37 rfl Try.ntmps37 rfl ?_
  intro a0 hA0
  unfold tree_kids.vc at ht0
  refine wp_seq ?_
  refine wp_region_lit ?_
  refine sq (opk_new (fun B => .pointer (some ⟨B, 0, none⟩)) hA0 rfl (r_box (cs := [.int .i64 t_1_Kind, .string (Bs t_1_Name), .string (Bs t_1_Text), Sl.v t_1_Attrs, Sl.v t_1_Kids]) (hA0.get rfl) rfl) fun a4 w3 B_2 hE5 hN6 hB7 hA4 _ => ?_)
  have hN8 : New w B_2 w3 := hN6
  have hC9 : Chg [] w w3 := hE5
  refine sq (opk_val hA4 rfl (r_assign rfl) fun a10 hA10 _ => ?_)
  refine sq_end ?_
  have hA11 := hA10.keep [(1, .pointer (some (⟨B_2, 0, none⟩ : Addr)))] ⟨rfl, trivial⟩
  refine then_normal ?_
  refine wp_seq ?_
  refine wp_seq ?_
  refine wp_region_lit ?_
  refine sq (opk_val hA11 rfl (r_fieldAddr (hA11.get rfl) Try.underlying26 rfl ti_24 (by decide)) fun a12 hA12 _ => ?_)
  refine sq (opk_val hA12 rfl (r_load1 Try.underlying24 rfl (hA12.get rfl) (hB7.cell 4 _ rfl)) fun a13 hA13 _ => ?_)
  refine sq (opk_val hA13 rfl (r_len (hA13.get rfl) Try.underlying24) fun a14 hA14 _ => ?_)
  refine sq (opk_val hA14 rfl (r_move rfl) fun a15 hA15 _ => ?_)
  refine sq_end ?_
  have hA16 := hA15.keep [(1, .pointer (some (⟨B_2, 0, none⟩ : Addr))), (6, Sl.v t_1_Kids), (7, .int .i64 (t_1_Kids.n : Int)), (8, .int .i64 0)] ⟨rfl, rfl, rfl, rfl, trivial⟩
  refine then_normal ?_
  refine wp_block ?_
  have ht88 := ht0 w3 B_2 hN8  hC9
  obtain ⟨J_19, mu_20, h092, ht91⟩ := ht88
  refine wp_loop_st (σ := Int × World) (fun s a w => Ag 26 a [(1, .pointer (some (⟨B_2, 0, none⟩ : Addr))), (6, Sl.v t_1_Kids), (7, .int .i64 (t_1_Kids.n : Int)), (8, .int .i64 s.1)] ∧ Box w B_2 26 [.int .i64 t_1_Kind, .string (Bs t_1_Name), .string (Bs t_1_Text), Sl.v t_1_Attrs, Sl.v t_1_Kids] ∧ w = s.2 ∧ J_19 s.1 s.2) (fun s => mu_20 s.1 s.2) (0, w3) ⟨hA16.keep [(1, .pointer (some (⟨B_2, 0, none⟩ : Addr))), (6, Sl.v t_1_Kids), (7, .int .i64 (t_1_Kids.n : Int)), (8, .int .i64 0)] ⟨rfl, rfl, rfl, rfl, trivial⟩, hB7, rfl, h092⟩ ?_
  rintro ⟨x_17, w18⟩ a89 w_ ⟨hA89, hB90, hw_, hJ94⟩
  have hw_ : w18 = w_ := hw_.symm
  subst hw_
  have ht93 := ht91 x_17 _ hJ94
  refine wp_seq ?_
  refine wp_region_lit ?_
  refine sq (opk_val hA89 rfl (r_lss (hA89.get rfl) (hA89.get rfl)) fun a95 hA95 _ => ?_)
  refine sq_end ?_
  have hA96 := hA95.keep [(1, .pointer (some (⟨B_2, 0, none⟩ : Addr))), (6, Sl.v t_1_Kids), (7, .int .i64 (t_1_Kids.n : Int)), (8, .int .i64 x_17), (9, .bool (decide (x_17 < (t_1_Kids.n : Int))))] ⟨rfl, rfl, rfl, rfl, rfl, trivial⟩
  refine then_normal ?_
  refine wp_seq ?_
  refine wp_cond_split (hA96.get rfl) (fun hc => ?_) (fun hc => ?_)
  · have ht97 := ht93.1 (of_decide_eq_true hc)
    clear hc
    refine wp_skip ?_
    refine then_normal ?_
    refine wp_seq ?_
    refine wp_block ?_
    refine wp_seq ?_
    refine wp_region_lit ?_
    obtain ⟨hb100, p_99, hp101, ht102⟩ := ht97
    refine sq (opk_val hA96 rfl (r_indexAddr (hA96.get rfl) (hA96.get rfl) Try.underlying24 ti_26 hb100 hp101) fun a103 hA103 _ => ?_)
    obtain ⟨x_105_Kind, x_105_Name, x_105_Text, x_105_Attrs, x_105_Kids, hx106, ht107⟩ := ht102
    refine sq (opk_val hA103 rfl (r_loadN Try.underlying26 rfl ti_26 (hA103.get rfl) hx106) fun a104 hA104 _ => ?_)
    refine sq (opk_new (fun B => .pointer (some ⟨B, 0, none⟩)) hA104 rfl (r_alloc (cs := [.int .i64 0, .string (Bs ([] : Str)), .string (Bs ([] : Str)), Sl.v Sl.nil, Sl.v Sl.nil]) ti_26 rfl) fun a110 w109 B_108 hE111 hN112 hB113 hA110 _ => ?_)
    have hne114 : B_2 ≠ B_108 := Nat.ne_of_lt (Nat.lt_of_lt_of_le hB90.lt hN112.ge)
    have hN115 : New w18 B_108 w109 := hN112
    have hB116 := hB90.ext hE111
    have hC117 : Chg [] w18 w109 := hE111
    refine sq (opk_store hA110 hB113 (r_store (vs := [.int .i64 x_105_Kind, .string (Bs x_105_Name), .string (Bs x_105_Text), Sl.v x_105_Attrs, Sl.v x_105_Kids]) (hA110.get rfl) (hA110.get rfl) rfl ti_26 hB113 rfl (ones_all [.int .i64 x_105_Kind, .string (Bs x_105_Name), .string (Bs x_105_Text), Sl.v x_105_Attrs, Sl.v x_105_Kids] rfl)) fun a119 w118 hS120 hB121 hA119 => ?_)
    have hB122 : Box w118 B_108 26 [.int .i64 x_105_Kind, .string (Bs x_105_Name), .string (Bs x_105_Text), Sl.v x_105_Attrs, Sl.v x_105_Kids] := hB121
    have hB123 := hB116.keep hS120 (by simpa using hne114)
    have hC124 := hC117.storeNew hN115 hS120
    have hN125 := hN115.up hS120.size
    refine sq_end ?_
    have hA126 := hA119.keep [(1, .pointer (some (⟨B_2, 0, none⟩ : Addr))), (4, .pointer (some (⟨B_108, 0, none⟩ : Addr))), (6, Sl.v t_1_Kids), (7, .int .i64 (t_1_Kids.n : Int)), (8, .int .i64 x_17)] ⟨rfl, rfl, rfl, rfl, rfl, trivial⟩
    refine then_normal ?_
    refine wp_seq ?_
    refine wp_region_lit ?_
    refine sq (opk_val hA126 rfl (r_loadN (cs := [.int .i64 x_105_Kind, .string (Bs x_105_Name), .string (Bs x_105_Text), Sl.v x_105_Attrs, Sl.v x_105_Kids]) Try.underlying26 rfl ti_26 (hA126.get rfl) (hB122.part 0 _ rfl)) fun a127 hA127 _ => ?_)
    have ht128 := ht107 w118 B_108 hN125  hC124
    refine sq (opk_call hA127 rfl (r_call (args := #[.agg #[.int .i64 x_105_Kind, .string (Bs x_105_Name), .string (Bs x_105_Text), Sl.v x_105_Attrs, Sl.v x_105_Kids]]) Try.func47 (by decide) rfl (map_arr (ml_cons (hA127.get rfl) ml_nil)) rfl) ht128 fun a130 v136 w131 hA130 _ hn133 hz134 hK135 => ?_)
    obtain ⟨r_129, rfl, ht132⟩ := hK135
    have hB137 := hB123.kept hn133 (.head _)
    have hB138 := hB122.kept hn133 (.tail _ (.head _))
    refine sq (opk_val hA130 rfl (r_not (hA130.get rfl)) fun a139 hA139 _ => ?_)
    refine sq (opk_val hA139 rfl (r_move (hA139.get rfl)) fun a140 hA140 _ => ?_)
    refine sq (opk_gval hA140 rfl rfl (g := true) (e := (!r_129)) rfl (fun hg => r_fieldAddr (hA140.get rfl) Try.underlying26 rfl ti_3 (by decide)) fun a141 hA141 _ => ?_)
    refine sq (opk_gval hA141 rfl rfl (g := true) (e := (!r_129)) rfl (fun hg => r_load1 Try.underlying3 rfl (cv_get (hA141.get rfl) hg) (hB138.cell 0 _ rfl)) fun a142 hA142 _ => ?_)
    refine sq (opk_gval hA142 rfl rfl (g := true) (e := (!r_129)) rfl (fun hg => r_eql (cv_get (hA142.get rfl) hg) rfl) fun a143 hA143 _ => ?_)
    refine sq (opk_gval hA143 rfl rfl (g := true) (e := (!r_129)) rfl (fun hg => r_move (cv_get (hA143.get rfl) hg)) fun a144 hA144 _ => ?_)
    refine sq (opk_gval hA144 rfl rfl (g := (true && ((!r_129) == false))) (e := (decide (x_105_Kind = 5))) rfl (fun hg => r_fieldAddr (hA144.get rfl) Try.underlying26 rfl ti_3 (by decide)) fun a145 hA145 _ => ?_)
    refine sq (opk_gval hA145 rfl rfl (g := (true && ((!r_129) == false))) (e := (decide (x_105_Kind = 5))) rfl (fun hg => r_load1 Try.underlying3 rfl (cv_get (hA145.get rfl) hg) (hB137.cell 0 _ rfl)) fun a146 hA146 _ => ?_)
    refine sq (opk_gval hA146 rfl rfl (g := (true && ((!r_129) == false))) (e := (decide (x_105_Kind = 5))) rfl (fun hg => r_neq (cv_get (hA146.get rfl) hg) rfl) fun a147 hA147 _ => ?_)
    refine sq (opk_gval hA147 rfl rfl (g := true) (e := (!r_129)) rfl (fun hg => r_pick_and (g := ((true && ((!r_129) == false)) && ((decide (x_105_Kind = 5)) == true))) (cv_get (hA147.get rfl) hg) (hA147.get rfl) (fun he => g_mkt hg he)) fun a148 hA148 _ => ?_)
    refine sq (opk_val hA148 rfl (r_pick_or (g := (true && ((!r_129) == false))) (hA148.get rfl) (hA148.get rfl) (fun he => g_mkf rfl he)) fun a149 hA149 _ => ?_)
    refine sq_end ?_
    have hA150 := hA149.keep [(1, .pointer (some (⟨B_2, 0, none⟩ : Addr))), (6, Sl.v t_1_Kids), (7, .int .i64 (t_1_Kids.n : Int)), (8, .int .i64 x_17), (24, .bool ((!r_129) || ((decide (x_105_Kind = 5)) && (decide (t_1_Kind ≠ 1)))))] ⟨rfl, rfl, rfl, rfl, rfl, trivial⟩
    refine then_normal ?_
    refine wp_cond_split (hA150.get rfl) (fun hc => ?_) (fun hc => ?_)
    · have ht151 := ht132.1 ((b_or_t hc).imp (fun h => (b_not_t h)) (fun h => ⟨(of_decide_eq_true (b_and_t h).1), (of_decide_eq_true (b_and_t h).2)⟩))
      clear hc
      refine wp_seq ?_
      refine wp_region_lit ?_
      refine sq (opk_val hA150 rfl (r_assign rfl) fun a153 hA153 _ => ?_)
      refine sq_end ?_
      have hA154 := hA153.keep [(2, .bool false)] ⟨rfl, trivial⟩
      refine then_normal ?_
      refine wp_ret ?_
      refine block_ret ?_
      refine then_ret ?_
      refine then_ret ?_
      refine block_ret ?_
      refine then_ret ?_
      exact res_all (vs := [.bool false]) rfl hA154 ⟨res_of_tmp hA154 rfl, trivial⟩ ht151
    · have ht152 := ht132.2 ⟨(b_not_f (b_or_f hc).1), ((b_and_f (b_or_f hc).2).imp (fun h => (of_decide_eq_false h)) (fun h => (of_decide_eq_false h)))⟩
      clear hc
      refine wp_skip ?_
      refine block_normal ?_
      refine then_normal ?_
      refine wp_region_lit ?_
      obtain ⟨hS156, ht157⟩ := ht152
      refine sq (opk_val hA150 rfl (r_addI (hA150.get rfl) rfl hS156) fun a155 hA155 _ => ?_)
      refine sq (opk_val hA155 rfl (r_move (hA155.get rfl)) fun a158 hA158 _ => ?_)
      refine sq_end ?_
      have hA159 := hA158.keep [(1, .pointer (some (⟨B_2, 0, none⟩ : Addr))), (6, Sl.v t_1_Kids), (7, .int .i64 (t_1_Kids.n : Int)), (8, .int .i64 (x_17 + 1))] ⟨rfl, rfl, rfl, rfl, trivial⟩
      have hA160 := hA159.keep [(1, .pointer (some (⟨B_2, 0, none⟩ : Addr))), (6, Sl.v t_1_Kids), (7, .int .i64 (t_1_Kids.n : Int)), (8, .int .i64 (x_17 + 1))] ⟨rfl, rfl, rfl, rfl, trivial⟩
      exact then_normal ⟨(x_17 + 1, w131), ⟨hA160, hB137, rfl, ht157.1⟩, ht157.2⟩
  · have ht98 := ht93.2 (of_decide_eq_false hc)
    clear hc
    refine wp_exit ?_
    refine then_exit ?_
    refine then_exit ?_
    refine block_hit ?_
    have hA161 := hA96.keep [] trivial
    refine then_normal ?_
    refine wp_seq ?_
    refine wp_region_lit ?_
    refine sq (opk_val hA161 rfl (r_assign rfl) fun a162 hA162 _ => ?_)
    refine sq_end ?_
    have hA163 := hA162.keep [(2, .bool true)] ⟨rfl, trivial⟩
    refine then_normal ?_
    refine wp_ret ?_
    exact res_all (vs := [.bool true]) rfl hA163 ⟨res_of_tmp hA163 rfl, trivial⟩ ht98

/-- The condition of topiary/tree.node. -/
def tree_node.vc (t_1_Kind : Int) (t_1_Name : Str) (t_1_Text : Str) (t_1_Attrs : Sl) (t_1_Kids : Sl) (R : Value → World → Prop) (w : World) : Prop :=
((t_1_Kind = 2) →
∀ (w3 : World) (B_2 : Nat), New w B_2 w3 → Chg [] w w3 →
CallK Try.prog 19 #[.string (Bs t_1_Name)] w3 [B_2] (fun v w23 => ∃ (r_21 : Bool), v = .bool r_21 ∧
∃ (r_38 : Bool), ((((r_21 = true) ∧ (t_1_Text = ([] : Str)))) → Calls Try.prog 51 #[Sl.v t_1_Attrs] w23 (Ret fun v w' => Ext w23 w' ∧ v = .bool r_38)) ∧
(∀ w40 : World, Ext w23 w40 →
∃ (r_50 : Bool), (((((r_21 = true) ∧ (t_1_Text = ([] : Str))) ∧ (r_38 = true))) → Calls Try.prog 37 #[.agg #[.int .i64 t_1_Kind, .string (Bs t_1_Name), .string (Bs t_1_Text), Sl.v t_1_Attrs, Sl.v t_1_Kids]] w40 (Ret fun v w' => Ext w40 w' ∧ v = .bool r_50)) ∧
(∀ w52 : World, Ext w40 w52 →
R (.bool (((r_21 && (decide (t_1_Text = ([] : Str)))) && r_38) && r_50)) w52)))) ∧
((¬ (t_1_Kind = 2)) →
(((0 < (t_1_Attrs.n : Int)) ∨ (0 < (t_1_Kids.n : Int))) →
∀ (w3 : World) (B_2 : Nat), New w B_2 w3 → Chg [] w w3 →
R (.bool false) w3) ∧
(((¬ (0 < (t_1_Attrs.n : Int))) ∧ (¬ (0 < (t_1_Kids.n : Int)))) →
((t_1_Kind = 3) →
∀ (w3 : World) (B_2 : Nat), New w B_2 w3 → Chg [] w w3 →
R (.bool (((decide (t_1_Name = ([] : Str))) && (decide (t_1_Text ≠ ([] : Str)))) && (decide ((t_1_Text.length : Int) ≤ 4096)))) w3) ∧
((¬ (t_1_Kind = 3)) →
((t_1_Kind = 4) →
∀ (w3 : World) (B_2 : Nat), New w B_2 w3 → Chg [] w w3 →
R (.bool ((decide (t_1_Name = ([] : Str))) && (decide ((t_1_Text.length : Int) ≤ 4096)))) w3) ∧
((¬ (t_1_Kind = 4)) →
((t_1_Kind = 5) →
∀ (w3 : World) (B_2 : Nat), New w B_2 w3 → Chg [] w w3 →
R (.bool ((decide (t_1_Text = ([] : Str))) && (decide ((t_1_Name.length : Int) ≤ 32)))) w3) ∧
((¬ (t_1_Kind = 5)) →
∀ (w3 : World) (B_2 : Nat), New w B_2 w3 → Chg [] w w3 →
R (.bool false) w3)))))
set_option maxHeartbeats 1000000 in
set_option maxRecDepth 10000 in
theorem tree_node.ok (t_1_Kind : Int) (t_1_Name : Str) (t_1_Text : Str) (t_1_Attrs : Sl) (t_1_Kids : Sl) {R : Value → World → Prop} {w : World} (ht0 : tree_node.vc t_1_Kind t_1_Name t_1_Text t_1_Attrs t_1_Kids R w) : Calls Try.prog 47 #[.agg #[.int .i64 t_1_Kind, .string (Bs t_1_Name), .string (Bs t_1_Text), Sl.v t_1_Attrs, Sl.v t_1_Kids]] w (Ret R) := by
  refine enter [.agg #[.int .i64 t_1_Kind, .string (Bs t_1_Name), .string (Bs t_1_Text), Sl.v t_1_Attrs, Sl.v t_1_Kids]] Try.func47 rfl Try.ntmps47 rfl ?_
  intro a0 hA0
  unfold tree_node.vc at ht0
  refine wp_seq ?_
  refine wp_region_lit ?_
  refine sq (opk_new (fun B => .pointer (some ⟨B, 0, none⟩)) hA0 rfl (r_box (cs := [.int .i64 t_1_Kind, .string (Bs t_1_Name), .string (Bs t_1_Text), Sl.v t_1_Attrs, Sl.v t_1_Kids]) (hA0.get rfl) rfl) fun a4 w3 B_2 hE5 hN6 hB7 hA4 _ => ?_)
  have hN8 : New w B_2 w3 := hN6
  have hC9 : Chg [] w w3 := hE5
  refine sq (opk_val hA4 rfl (r_assign rfl) fun a10 hA10 _ => ?_)
  refine sq_end ?_
  have hA11 := hA10.keep [(1, .pointer (some (⟨B_2, 0, none⟩ : Addr)))] ⟨rfl, trivial⟩
  refine then_normal ?_
  refine wp_seq ?_
  refine wp_seq ?_
  refine wp_region_lit ?_
  refine sq (opk_val hA11 rfl (r_fieldAddr (hA11.get rfl) Try.underlying26 rfl ti_3 (by decide)) fun a12 hA12 _ => ?_)
  refine sq (opk_val hA12 rfl (r_load1 Try.underlying3 rfl (hA12.get rfl) (hB7.cell 0 _ rfl)) fun a13 hA13 _ => ?_)
  refine sq (opk_val hA13 rfl (r_eql (hA13.get rfl) rfl) fun a14 hA14 _ => ?_)
  refine sq_end ?_
  have hA15 := hA14.keep [(1, .pointer (some (⟨B_2, 0, none⟩ : Addr))), (5, .bool (decide (t_1_Kind = 2)))] ⟨rfl, rfl, trivial⟩
  refine then_normal ?_
  refine wp_cond_split (hA15.get rfl) (fun hc => ?_) (fun hc => ?_)
  · have ht16 := ht0.1 (of_decide_eq_true hc)
    clear hc
    refine wp_seq ?_
    refine wp_region_lit ?_
    refine sq (opk_val hA15 rfl (r_fieldAddr (hA15.get rfl) Try.underlying26 rfl ti_9 (by decide)) fun a18 hA18 _ => ?_)
    refine sq (opk_val hA18 rfl (r_load1 Try.underlying9 rfl (hA18.get rfl) (hB7.cell 1 _ rfl)) fun a19 hA19 _ => ?_)
    have ht20 := ht16 w3 B_2 hN8  hC9
    refine sq (opk_call hA19 rfl (r_call (args := #[.string (Bs t_1_Name)]) Try.func19 (by decide) rfl (map_arr (ml_cons (hA19.get rfl) ml_nil)) rfl) ht20 fun a22 v28 w23 hA22 _ hn25 hz26 hK27 => ?_)
    obtain ⟨r_21, rfl, ht24⟩ := hK27
    have hB29 := hB7.kept hn25 (.head _)
    refine sq (opk_val hA22 rfl (r_move (hA22.get rfl)) fun a30 hA30 _ => ?_)
    refine sq (opk_gval hA30 rfl rfl (g := true) (e := r_21) rfl (fun hg => r_fieldAddr (hA30.get rfl) Try.underlying26 rfl ti_9 (by decide)) fun a31 hA31 _ => ?_)
    refine sq (opk_gval hA31 rfl rfl (g := true) (e := r_21) rfl (fun hg => r_load1 Try.underlying9 rfl (cv_get (hA31.get rfl) hg) (hB29.cell 2 _ rfl)) fun a32 hA32 _ => ?_)
    refine sq (opk_gval hA32 rfl rfl (g := true) (e := r_21) rfl (fun hg => r_seql (cv_get (hA32.get rfl) hg) rfl) fun a33 hA33 _ => ?_)
    refine sq (opk_val hA33 rfl (r_pick_and (g := (true && (r_21 == true))) (hA33.get rfl) (hA33.get rfl) (fun he => g_mkt rfl he)) fun a34 hA34 _ => ?_)
    refine sq (opk_val hA34 rfl (r_move (hA34.get rfl)) fun a35 hA35 _ => ?_)
    refine sq (opk_gval hA35 rfl rfl (g := true) (e := (r_21 && (decide (t_1_Text = ([] : Str))))) rfl (fun hg => r_fieldAddr (hA35.get rfl) Try.underlying26 rfl ti_23 (by decide)) fun a36 hA36 _ => ?_)
    refine sq (opk_gval hA36 rfl rfl (g := true) (e := (r_21 && (decide (t_1_Text = ([] : Str))))) rfl (fun hg => r_load1 Try.underlying23 rfl (cv_get (hA36.get rfl) hg) (hB29.cell 3 _ rfl)) fun a37 hA37 _ => ?_)
    obtain ⟨r_38, hc42, ht41⟩ := ht24
    refine sq (opk_gcall hA37 rfl rfl (g := true) (e := (r_21 && (decide (t_1_Text = ([] : Str))))) rfl (fun hg => r_call (args := #[Sl.v t_1_Attrs]) Try.func51 (by decide) rfl (map_arr (ml_cons (cv_get (hA37.get rfl) hg) ml_nil)) rfl) (fun hg => hc42 ⟨(b_and_t (g_t hg)).1, (of_decide_eq_true (b_and_t (g_t hg)).2)⟩) fun a39 w40 hA39 _ hE43 => ?_)
    have hB44 := hB29.ext hE43
    have hC45 : Chg [] w23 w40 := hE43
    have ht46 := ht41 w40 hE43
    refine sq (opk_val hA39 rfl (r_pick_and (g := (true && ((r_21 && (decide (t_1_Text = ([] : Str)))) == true))) (hA39.get rfl) (hA39.get rfl) (fun he => g_mkt rfl he)) fun a47 hA47 _ => ?_)
    refine sq (opk_val hA47 rfl (r_move (hA47.get rfl)) fun a48 hA48 _ => ?_)
    refine sq (opk_gval hA48 rfl rfl (g := true) (e := ((r_21 && (decide (t_1_Text = ([] : Str)))) && r_38)) rfl (fun hg => r_loadN (cs := [.int .i64 t_1_Kind, .string (Bs t_1_Name), .string (Bs t_1_Text), Sl.v t_1_Attrs, Sl.v t_1_Kids]) Try.underlying26 rfl ti_26 (hA48.get rfl) (hB44.part 0 _ rfl)) fun a49 hA49 _ => ?_)
    obtain ⟨r_50, hc54, ht53⟩ := ht46
    refine sq (opk_gcall hA49 rfl rfl (g := true) (e := ((r_21 && (decide (t_1_Text = ([] : Str)))) && r_38)) rfl (fun hg => r_call (args := #[.agg #[.int .i64 t_1_Kind, .string (Bs t_1_Name), .string (Bs t_1_Text), Sl.v t_1_Attrs, Sl.v t_1_Kids]]) Try.func37 (by decide) rfl (map_arr (ml_cons (cv_get (hA49.get rfl) hg) ml_nil)) rfl) (fun hg => hc54 ⟨⟨(b_and_t (b_and_t (g_t hg)).1).1, (of_decide_eq_true (b_and_t (b_and_t (g_t hg)).1).2)⟩, (b_and_t (g_t hg)).2⟩) fun a51 w52 hA51 _ hE55 => ?_)
    have hB56 := hB44.ext hE55
    have hC57 : Chg [] w40 w52 := hE55
    have ht58 := ht53 w52 hE55
    refine sq (opk_val hA51 rfl (r_pick_and (g := (true && (((r_21 && (decide (t_1_Text = ([] : Str)))) && r_38) == true))) (hA51.get rfl) (hA51.get rfl) (fun he => g_mkt rfl he)) fun a59 hA59 _ => ?_)
    refine sq (opk_val hA59 rfl (r_assign (hA59.get rfl)) fun a60 hA60 _ => ?_)
    refine sq_end ?_
    have hA61 := hA60.keep [(2, .bool (((r_21 && (decide (t_1_Text = ([] : Str)))) && r_38) && r_50))] ⟨rfl, trivial⟩
    refine then_normal ?_
    refine wp_ret ?_
    refine then_ret ?_
    exact res_all (vs := [.bool (((r_21 && (decide (t_1_Text = ([] : Str)))) && r_38) && r_50)]) rfl hA61 ⟨res_of_tmp hA61 rfl, trivial⟩ ht58
  · have ht17 := ht0.2 (of_decide_eq_false hc)
    clear hc
    refine wp_skip ?_
    refine then_normal ?_
    refine wp_seq ?_
    refine wp_seq ?_
    refine wp_region_lit ?_
    refine sq (opk_val hA15 rfl (r_fieldAddr (hA15.get rfl) Try.underlying26 rfl ti_23 (by decide)) fun a62 hA62 _ => ?_)
    refine sq (opk_val hA62 rfl (r_load1 Try.underlying23 rfl (hA62.get rfl) (hB7.cell 3 _ rfl)) fun a63 hA63 _ => ?_)
    refine sq (opk_val hA63 rfl (r_len (hA63.get rfl) Try.underlying23) fun a64 hA64 _ => ?_)
    refine sq (opk_val hA64 rfl (r_gtr (hA64.get rfl) rfl) fun a65 hA65 _ => ?_)
    refine sq (opk_val hA65 rfl (r_move (hA65.get rfl)) fun a66 hA66 _ => ?_)
    refine sq (opk_gval hA66 rfl rfl (g := true) (e := (decide (0 < (t_1_Attrs.n : Int)))) rfl (fun hg => r_fieldAddr (hA66.get rfl) Try.underlying26 rfl ti_24 (by decide)) fun a67 hA67 _ => ?_)
    refine sq (opk_gval hA67 rfl rfl (g := true) (e := (decide (0 < (t_1_Attrs.n : Int)))) rfl (fun hg => r_load1 Try.underlying24 rfl (cv_get (hA67.get rfl) hg) (hB7.cell 4 _ rfl)) fun a68 hA68 _ => ?_)
    refine sq (opk_gval hA68 rfl rfl (g := true) (e := (decide (0 < (t_1_Attrs.n : Int)))) rfl (fun hg => r_len (cv_get (hA68.get rfl) hg) Try.underlying24) fun a69 hA69 _ => ?_)
    refine sq (opk_gval hA69 rfl rfl (g := true) (e := (decide (0 < (t_1_Attrs.n : Int)))) rfl (fun hg => r_gtr (cv_get (hA69.get rfl) hg) rfl) fun a70 hA70 _ => ?_)
    refine sq (opk_val hA70 rfl (r_pick_or (g := (true && ((decide (0 < (t_1_Attrs.n : Int))) == false))) (hA70.get rfl) (hA70.get rfl) (fun he => g_mkf rfl he)) fun a71 hA71 _ => ?_)
    refine sq_end ?_
    have hA72 := hA71.keep [(1, .pointer (some (⟨B_2, 0, none⟩ : Addr))), (32, .bool ((decide (0 < (t_1_Attrs.n : Int))) || (decide (0 < (t_1_Kids.n : Int)))))] ⟨rfl, rfl, trivial⟩
    refine then_normal ?_
    refine wp_cond_split (hA72.get rfl) (fun hc => ?_) (fun hc => ?_)
    · have ht73 := ht17.1 ((b_or_t hc).imp (fun h => (of_decide_eq_true h)) (fun h => (of_decide_eq_true h)))
      clear hc
      refine wp_seq ?_
      refine wp_region_lit ?_
      refine sq (opk_val hA72 rfl (r_assign rfl) fun a75 hA75 _ => ?_)
      refine sq_end ?_
      have hA76 := hA75.keep [(2, .bool false)] ⟨rfl, trivial⟩
      refine then_normal ?_
      refine wp_ret ?_
      refine then_ret ?_
      have ht77 := ht73 w3 B_2 hN8  hC9
      exact res_all (vs := [.bool false]) rfl hA76 ⟨res_of_tmp hA76 rfl, trivial⟩ ht77
    · have ht74 := ht17.2 ⟨(of_decide_eq_false (b_or_f hc).1), (of_decide_eq_false (b_or_f hc).2)⟩
      clear hc
      refine wp_skip ?_
      refine then_normal ?_
      refine wp_seq ?_
      refine wp_seq ?_
      refine wp_region_lit ?_
      refine sq (opk_val hA72 rfl (r_fieldAddr (hA72.get rfl) Try.underlying26 rfl ti_3 (by decide)) fun a78 hA78 _ => ?_)
      refine sq (opk_val hA78 rfl (r_load1 Try.underlying3 rfl (hA78.get rfl) (hB7.cell 0 _ rfl)) fun a79 hA79 _ => ?_)
      refine sq_end ?_
      have hA80 := hA79.keep [(1, .pointer (some (⟨B_2, 0, none⟩ : Addr))), (34, .int .i64 t_1_Kind)] ⟨rfl, rfl, trivial⟩
      refine then_normal ?_
      refine wp_block ?_
      refine wp_seq ?_
      refine wp_region_lit ?_
      refine sq (opk_val hA80 rfl (r_eql (hA80.get rfl) rfl) fun a81 hA81 _ => ?_)
      refine sq (opk_val hA81 rfl (r_assign (hA81.get rfl)) fun a82 hA82 _ => ?_)
      refine sq_end ?_
      have hA83 := hA82.keep [(1, .pointer (some (⟨B_2, 0, none⟩ : Addr))), (34, .int .i64 t_1_Kind), (35, .bool (decide (t_1_Kind = 3)))] ⟨rfl, rfl, rfl, trivial⟩
      refine then_normal ?_
      refine wp_cond_split (hA83.get rfl) (fun hc => ?_) (fun hc => ?_)
      · have ht84 := ht74.1 (of_decide_eq_true hc)
        clear hc
        refine wp_seq ?_
        refine wp_region_lit ?_
        refine sq (opk_val hA83 rfl (r_fieldAddr (hA83.get rfl) Try.underlying26 rfl ti_9 (by decide)) fun a86 hA86 _ => ?_)
        refine sq (opk_val hA86 rfl (r_load1 Try.underlying9 rfl (hA86.get rfl) (hB7.cell 1 _ rfl)) fun a87 hA87 _ => ?_)
        refine sq (opk_val hA87 rfl (r_seql (hA87.get rfl) rfl) fun a88 hA88 _ => ?_)
        refine sq (opk_val hA88 rfl (r_move (hA88.get rfl)) fun a89 hA89 _ => ?_)
        refine sq (opk_gval hA89 rfl rfl (g := true) (e := (decide (t_1_Name = ([] : Str)))) rfl (fun hg => r_fieldAddr (hA89.get rfl) Try.underlying26 rfl ti_9 (by decide)) fun a90 hA90 _ => ?_)
        refine sq (opk_gval hA90 rfl rfl (g := true) (e := (decide (t_1_Name = ([] : Str)))) rfl (fun hg => r_load1 Try.underlying9 rfl (cv_get (hA90.get rfl) hg) (hB7.cell 2 _ rfl)) fun a91 hA91 _ => ?_)
        refine sq (opk_gval hA91 rfl rfl (g := true) (e := (decide (t_1_Name = ([] : Str)))) rfl (fun hg => r_sneq (cv_get (hA91.get rfl) hg) rfl) fun a92 hA92 _ => ?_)
        refine sq (opk_val hA92 rfl (r_pick_and (g := (true && ((decide (t_1_Name = ([] : Str))) == true))) (hA92.get rfl) (hA92.get rfl) (fun he => g_mkt rfl he)) fun a93 hA93 _ => ?_)
        refine sq (opk_val hA93 rfl (r_move (hA93.get rfl)) fun a94 hA94 _ => ?_)
        refine sq (opk_gval hA94 rfl rfl (g := true) (e := ((decide (t_1_Name = ([] : Str))) && (decide (t_1_Text ≠ ([] : Str))))) rfl (fun hg => r_fieldAddr (hA94.get rfl) Try.underlying26 rfl ti_9 (by decide)) fun a95 hA95 _ => ?_)
        refine sq (opk_gval hA95 rfl rfl (g := true) (e := ((decide (t_1_Name = ([] : Str))) && (decide (t_1_Text ≠ ([] : Str))))) rfl (fun hg => r_load1 Try.underlying9 rfl (cv_get (hA95.get rfl) hg) (hB7.cell 2 _ rfl)) fun a96 hA96 _ => ?_)
        refine sq (opk_gval hA96 rfl rfl (g := true) (e := ((decide (t_1_Name = ([] : Str))) && (decide (t_1_Text ≠ ([] : Str))))) rfl (fun hg => r_slen (cv_get (hA96.get rfl) hg) Try.underlying9) fun a97 hA97 _ => ?_)
        refine sq (opk_gval hA97 rfl rfl (g := true) (e := ((decide (t_1_Name = ([] : Str))) && (decide (t_1_Text ≠ ([] : Str))))) rfl (fun hg => r_leq (cv_get (hA97.get rfl) hg) rfl) fun a98 hA98 _ => ?_)
        refine sq (opk_val hA98 rfl (r_pick_and (g := (true && (((decide (t_1_Name = ([] : Str))) && (decide (t_1_Text ≠ ([] : Str)))) == true))) (hA98.get rfl) (hA98.get rfl) (fun he => g_mkt rfl he)) fun a99 hA99 _ => ?_)
        refine sq (opk_val hA99 rfl (r_assign (hA99.get rfl)) fun a100 hA100 _ => ?_)
        refine sq_end ?_
        have hA101 := hA100.keep [(2, .bool (((decide (t_1_Name = ([] : Str))) && (decide (t_1_Text ≠ ([] : Str)))) && (decide ((t_1_Text.length : Int) ≤ 4096))))] ⟨rfl, trivial⟩
        refine then_normal ?_
        refine wp_ret ?_
        refine block_ret ?_
        refine then_ret ?_
        have ht102 := ht84 w3 B_2 hN8  hC9
        exact res_all (vs := [.bool (((decide (t_1_Name = ([] : Str))) && (decide (t_1_Text ≠ ([] : Str)))) && (decide ((t_1_Text.length : Int) ≤ 4096)))]) rfl hA101 ⟨res_of_tmp hA101 rfl, trivial⟩ ht102
      · have ht85 := ht74.2 (of_decide_eq_false hc)
        clear hc
        refine wp_seq ?_
        refine wp_region_lit ?_
        refine sq (opk_val hA83 rfl (r_eql (hA83.get rfl) rfl) fun a103 hA103 _ => ?_)
        refine sq (opk_val hA103 rfl (r_assign (hA103.get rfl)) fun a104 hA104 _ => ?_)
        refine sq_end ?_
        have hA105 := hA104.keep [(1, .pointer (some (⟨B_2, 0, none⟩ : Addr))), (34, .int .i64 t_1_Kind), (51, .bool (decide (t_1_Kind = 4)))] ⟨rfl, rfl, rfl, trivial⟩
        refine then_normal ?_
        refine wp_cond_split (hA105.get rfl) (fun hc => ?_) (fun hc => ?_)
        · have ht106 := ht85.1 (of_decide_eq_true hc)
          clear hc
          refine wp_seq ?_
          refine wp_region_lit ?_
          refine sq (opk_val hA105 rfl (r_fieldAddr (hA105.get rfl) Try.underlying26 rfl ti_9 (by decide)) fun a108 hA108 _ => ?_)
          refine sq (opk_val hA108 rfl (r_load1 Try.underlying9 rfl (hA108.get rfl) (hB7.cell 1 _ rfl)) fun a109 hA109 _ => ?_)
          refine sq (opk_val hA109 rfl (r_seql (hA109.get rfl) rfl) fun a110 hA110 _ => ?_)
          refine sq (opk_val hA110 rfl (r_move (hA110.get rfl)) fun a111 hA111 _ => ?_)
          refine sq (opk_gval hA111 rfl rfl (g := true) (e := (decide (t_1_Name = ([] : Str)))) rfl (fun hg => r_fieldAddr (hA111.get rfl) Try.underlying26 rfl ti_9 (by decide)) fun a112 hA112 _ => ?_)
          refine sq (opk_gval hA112 rfl rfl (g := true) (e := (decide (t_1_Name = ([] : Str)))) rfl (fun hg => r_load1 Try.underlying9 rfl (cv_get (hA112.get rfl) hg) (hB7.cell 2 _ rfl)) fun a113 hA113 _ => ?_)
          refine sq (opk_gval hA113 rfl rfl (g := true) (e := (decide (t_1_Name = ([] : Str)))) rfl (fun hg => r_slen (cv_get (hA113.get rfl) hg) Try.underlying9) fun a114 hA114 _ => ?_)
          refine sq (opk_gval hA114 rfl rfl (g := true) (e := (decide (t_1_Name = ([] : Str)))) rfl (fun hg => r_leq (cv_get (hA114.get rfl) hg) rfl) fun a115 hA115 _ => ?_)
          refine sq (opk_val hA115 rfl (r_pick_and (g := (true && ((decide (t_1_Name = ([] : Str))) == true))) (hA115.get rfl) (hA115.get rfl) (fun he => g_mkt rfl he)) fun a116 hA116 _ => ?_)
          refine sq (opk_val hA116 rfl (r_assign (hA116.get rfl)) fun a117 hA117 _ => ?_)
          refine sq_end ?_
          have hA118 := hA117.keep [(2, .bool ((decide (t_1_Name = ([] : Str))) && (decide ((t_1_Text.length : Int) ≤ 4096))))] ⟨rfl, trivial⟩
          refine then_normal ?_
          refine wp_ret ?_
          refine block_ret ?_
          refine then_ret ?_
          have ht119 := ht106 w3 B_2 hN8  hC9
          exact res_all (vs := [.bool ((decide (t_1_Name = ([] : Str))) && (decide ((t_1_Text.length : Int) ≤ 4096)))]) rfl hA118 ⟨res_of_tmp hA118 rfl, trivial⟩ ht119
        · have ht107 := ht85.2 (of_decide_eq_false hc)
          clear hc
          refine wp_seq ?_
          refine wp_region_lit ?_
          refine sq (opk_val hA105 rfl (r_eql (hA105.get rfl) rfl) fun a120 hA120 _ => ?_)
          refine sq (opk_val hA120 rfl (r_assign (hA120.get rfl)) fun a121 hA121 _ => ?_)
          refine sq_end ?_
          have hA122 := hA121.keep [(1, .pointer (some (⟨B_2, 0, none⟩ : Addr))), (62, .bool (decide (t_1_Kind = 5)))] ⟨rfl, rfl, trivial⟩
          refine then_normal ?_
          refine wp_cond_split (hA122.get rfl) (fun hc => ?_) (fun hc => ?_)
          · have ht123 := ht107.1 (of_decide_eq_true hc)
            clear hc
            refine wp_seq ?_
            refine wp_region_lit ?_
            refine sq (opk_val hA122 rfl (r_fieldAddr (hA122.get rfl) Try.underlying26 rfl ti_9 (by decide)) fun a125 hA125 _ => ?_)
            refine sq (opk_val hA125 rfl (r_load1 Try.underlying9 rfl (hA125.get rfl) (hB7.cell 2 _ rfl)) fun a126 hA126 _ => ?_)
            refine sq (opk_val hA126 rfl (r_seql (hA126.get rfl) rfl) fun a127 hA127 _ => ?_)
            refine sq (opk_val hA127 rfl (r_move (hA127.get rfl)) fun a128 hA128 _ => ?_)
            refine sq (opk_gval hA128 rfl rfl (g := true) (e := (decide (t_1_Text = ([] : Str)))) rfl (fun hg => r_fieldAddr (hA128.get rfl) Try.underlying26 rfl ti_9 (by decide)) fun a129 hA129 _ => ?_)
            refine sq (opk_gval hA129 rfl rfl (g := true) (e := (decide (t_1_Text = ([] : Str)))) rfl (fun hg => r_load1 Try.underlying9 rfl (cv_get (hA129.get rfl) hg) (hB7.cell 1 _ rfl)) fun a130 hA130 _ => ?_)
            refine sq (opk_gval hA130 rfl rfl (g := true) (e := (decide (t_1_Text = ([] : Str)))) rfl (fun hg => r_slen (cv_get (hA130.get rfl) hg) Try.underlying9) fun a131 hA131 _ => ?_)
            refine sq (opk_gval hA131 rfl rfl (g := true) (e := (decide (t_1_Text = ([] : Str)))) rfl (fun hg => r_leq (cv_get (hA131.get rfl) hg) rfl) fun a132 hA132 _ => ?_)
            refine sq (opk_val hA132 rfl (r_pick_and (g := (true && ((decide (t_1_Text = ([] : Str))) == true))) (hA132.get rfl) (hA132.get rfl) (fun he => g_mkt rfl he)) fun a133 hA133 _ => ?_)
            refine sq (opk_val hA133 rfl (r_assign (hA133.get rfl)) fun a134 hA134 _ => ?_)
            refine sq_end ?_
            have hA135 := hA134.keep [(2, .bool ((decide (t_1_Text = ([] : Str))) && (decide ((t_1_Name.length : Int) ≤ 32))))] ⟨rfl, trivial⟩
            refine then_normal ?_
            refine wp_ret ?_
            refine block_ret ?_
            refine then_ret ?_
            have ht136 := ht123 w3 B_2 hN8  hC9
            exact res_all (vs := [.bool ((decide (t_1_Text = ([] : Str))) && (decide ((t_1_Name.length : Int) ≤ 32)))]) rfl hA135 ⟨res_of_tmp hA135 rfl, trivial⟩ ht136
          · have ht124 := ht107.2 (of_decide_eq_false hc)
            clear hc
            refine wp_skip ?_
            refine block_normal ?_
            refine then_normal ?_
            refine wp_seq ?_
            refine wp_region_lit ?_
            refine sq (opk_val hA122 rfl (r_assign rfl) fun a137 hA137 _ => ?_)
            refine sq_end ?_
            have hA138 := hA137.keep [(2, .bool false)] ⟨rfl, trivial⟩
            refine then_normal ?_
            refine wp_ret ?_
            have ht139 := ht124 w3 B_2 hN8  hC9
            exact res_all (vs := [.bool false]) rfl hA138 ⟨res_of_tmp hA138 rfl, trivial⟩ ht139

end Go.Proofs.Ytpacegmmbabhjaa
