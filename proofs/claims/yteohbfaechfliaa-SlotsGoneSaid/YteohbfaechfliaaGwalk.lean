/-
  PRINTED BY PROGRAM: for each function its condition (vc), and that this suffices (ok).
-/
import Derived.Test.YteohbfaechfliaaGT
namespace Go.Proofs.Yteohbfaechfliaa
open Go.RowKit
set_option linter.unusedVariables false

/-- The condition of topiary/walk.Flat. -/
def walk_Flat.vc (t_1_Kind : Int) (t_1_Name : Str) (t_1_Text : Str) (t_1_Attrs : Sl) (t_1_Kids : Sl) (R : Value → World → Prop) (w : World) : Prop :=
∀ (w13 : World) (B_2 : Nat) (B_12 : Nat), New w B_2 w13 → New w B_12 w13 → B_2 ≠ B_12 → Chg [] w w13 →
∀ (_ : Box w13 B_2 26 [.int .i64 t_1_Kind, .string (Bs t_1_Name), .string (Bs t_1_Text), Sl.v t_1_Attrs, Sl.v t_1_Kids]),
∀ (_ : Box w13 B_12 79 [Sl.v Sl.nil]),
CallK Try.prog 62 #[.pointer (some (⟨B_2, 0, none⟩ : Addr)), .func (.func 63) #[] #[.pointer (some (⟨B_12, 0, none⟩ : Addr))]] w13 [] (fun v w29 => v = .tuple #[] ∧
∃ (x_37 : Sl), (w29.cell? (⟨B_12, 0, none⟩ : Addr) = some (Sl.v x_37)) ∧
(I64 ((x_37.n : Int) - 1)) ∧
∃ (J_48 : Int → World → Prop) (mu_49 : Int → World → Nat),
J_48 ((x_37.n : Int) - 1) w29 ∧
(∀ (i_46 : Int) (w47 : World), J_48 i_46 w47 →
((0 < i_46) →
∀ (w221 : World), Chg [] w47 w221 →
∃ (x_225 : Sl), (w221.cell? (⟨B_12, 0, none⟩ : Addr) = some (Sl.v x_225)) ∧
∃ (x_228 : Sl), (w221.cell? (⟨B_12, 0, none⟩ : Addr) = some (Sl.v x_228)) ∧
∃ p_233 : Addr, (((0 : Int) ≤ i_46 ∧ i_46 < (x_228.n : Int)) ∧ x_228.a = some p_233) ∧
∃ (x_238 : Int), (w221.cell? ((p_233.add (i_46.toNat * 10)).add 0) = some (.int .i64 x_238)) ∧
∃ p_243 : Addr, (((0 : Int) ≤ x_238 ∧ x_238 < (x_225.n : Int)) ∧ x_225.a = some p_243) ∧
∀ (w257 : World), Chg [] w221 w257 →
∃ (x_264 : Int), (w257.cell? ((p_243.add (x_238.toNat * 10)).add 1) = some (.int .i64 x_264)) ∧
∃ (x_267 : Sl), (w257.cell? (⟨B_12, 0, none⟩ : Addr) = some (Sl.v x_267)) ∧
∃ p_272 : Addr, (((0 : Int) ≤ i_46 ∧ i_46 < (x_267.n : Int)) ∧ x_267.a = some p_272) ∧
∃ (x_277 : Int), (w257.cell? ((p_272.add (i_46.toNat * 10)).add 1) = some (.int .i64 x_277)) ∧
(I64 (x_264 + x_277)) ∧
∀ (w287 : World), Chg [] w257 w287 →
∃ (B_302 o_303 : Nat) (T_304 : TypeId) (cs_305 : List Value), ((p_243.add (x_238.toNat * 10)).add 1) = ⟨B_302, o_303, none⟩ ∧ Box w287 B_302 T_304 cs_305 ∧ o_303 + 1 ≤ cs_305.length ∧ (∀ b ∈ [], b ≠ B_302) ∧
(∀ w297 : World, Chg [B_302] w287 w297 → Box w297 B_302 T_304 (putAt cs_305 o_303 [.int .i64 (x_264 + x_277)]) →
∀ (w313 : World), Chg [] w297 w313 →
∃ (x_320 : Int), (w313.cell? ((p_243.add (x_238.toNat * 10)).add 3) = some (.int .i64 x_320)) ∧
∃ (x_323 : Sl), (w313.cell? (⟨B_12, 0, none⟩ : Addr) = some (Sl.v x_323)) ∧
∃ p_328 : Addr, (((0 : Int) ≤ i_46 ∧ i_46 < (x_323.n : Int)) ∧ x_323.a = some p_328) ∧
∃ (x_333 : Int), (w313.cell? ((p_328.add (i_46.toNat * 10)).add 3) = some (.int .i64 x_333)) ∧
(I64 (x_333 + 1)) ∧
∀ (w344 : World), Chg [] w313 w344 →
∃ (B_359 o_360 : Nat) (T_361 : TypeId) (cs_362 : List Value), ((p_243.add (x_238.toNat * 10)).add 3) = ⟨B_359, o_360, none⟩ ∧ Box w344 B_359 T_361 cs_362 ∧ o_360 + 1 ≤ cs_362.length ∧ (∀ b ∈ [], b ≠ B_359) ∧
(∀ w354 : World, Chg [B_359] w344 w354 → Box w354 B_359 T_361 (putAt cs_362 o_360 [.int .i64 (max x_320 (x_333 + 1))]) →
(I64 (i_46 - 1)) ∧
J_48 (i_46 - 1) w354 ∧ mu_49 (i_46 - 1) w354 < mu_49 i_46 w47))) ∧
((¬ (0 < i_46)) →
∃ (x_379 : Sl), (w47.cell? (⟨B_12, 0, none⟩ : Addr) = some (Sl.v x_379)) ∧
R (Sl.v x_379) w47)))
set_option maxHeartbeats 1000000 in
set_option maxRecDepth 10000 in
theorem walk_Flat.ok (t_1_Kind : Int) (t_1_Name : Str) (t_1_Text : Str) (t_1_Attrs : Sl) (t_1_Kids : Sl) {R : Value → World → Prop} {w : World} (ht0 : walk_Flat.vc t_1_Kind t_1_Name t_1_Text t_1_Attrs t_1_Kids R w) : Calls Try.prog 37 #[.agg #[.int .i64 t_1_Kind, .string (Bs t_1_Name), .string (Bs t_1_Text), Sl.v t_1_Attrs, Sl.v t_1_Kids]] w (Ret R) := by
  refine enter [.agg #[.int .i64 t_1_Kind, .string (Bs t_1_Name), .string (Bs t_1_Text), Sl.v t_1_Attrs, Sl.v t_1_Kids]] Try.func37 rfl Try.ntmps37 rfl ?_
  intro a0 hA0
  unfold walk_Flat.vc at ht0
  refine wp_seq ?_
  refine wp_region_lit ?_
  refine sq (opk_new (fun B => .pointer (some ⟨B, 0, none⟩)) hA0 rfl (r_box (cs := [.int .i64 t_1_Kind, .string (Bs t_1_Name), .string (Bs t_1_Text), Sl.v t_1_Attrs, Sl.v t_1_Kids]) (hA0.get rfl) rfl) fun a4 w3 B_2 hE5 hN6 hB7 hA4 _ => ?_)
  have hN8 : New w B_2 w3 := hN6
  have hC9 : Chg [] w w3 := hE5
  refine sq (opk_val hA4 rfl (r_assign rfl) fun a10 hA10 _ => ?_)
  refine sq_end ?_
  have hA11 := hA10.keep [(1, .pointer (some (⟨B_2, 0, none⟩ : Addr)))] ⟨rfl, trivial⟩
  refine then_normal ?_
  refine wp_seq ?_
  refine wp_region_lit ?_
  refine sq (opk_new (fun B => .pointer (some ⟨B, 0, none⟩)) hA11 rfl (r_alloc (cs := [Sl.v Sl.nil]) ti_79 rfl) fun a14 w13 B_12 hE15 hN16 hB17 hA14 _ => ?_)
  have hne18 : B_2 ≠ B_12 := Nat.ne_of_lt (Nat.lt_of_lt_of_le hB7.lt hN16.ge)
  have hN19 := New.of hC9 hN16
  have hB20 := hB7.ext hE15
  have hC21 := hC9.more hE15
  have hN22 := hN8.up hE15.size
  refine sq_end ?_
  have hA23 := hA14.keep [(1, .pointer (some (⟨B_2, 0, none⟩ : Addr))), (3, .pointer (some (⟨B_12, 0, none⟩ : Addr)))] ⟨rfl, rfl, trivial⟩
  refine then_normal ?_
  refine wp_seq ?_
  refine wp_region_lit ?_
  refine sq (opk_val hA23 rfl (r_makeFunc (f := #[]) (c := #[.pointer (some (⟨B_12, 0, none⟩ : Addr))]) (map_arr ml_nil) (map_arr (ml_cons (hA23.get rfl) ml_nil))) fun a24 hA24 _ => ?_)
  have ht25 := ht0 w13 B_2 B_12 hN22 hN19 hne18 hC21
  have ht26 := ht25 hB20
  have ht27 := ht26 hB17
  refine sq (opk_call hA24 rfl (r_call (args := #[.pointer (some (⟨B_2, 0, none⟩ : Addr)), .func (.func 63) #[] #[.pointer (some (⟨B_12, 0, none⟩ : Addr))]]) Try.func62 (by decide) rfl (map_arr (ml_cons (hA24.get rfl) (ml_cons (hA24.get rfl) ml_nil))) rfl) ht27 fun a28 v34 w29 hA28 _ hn31 hz32 hK33 => ?_)
  obtain ⟨rfl, ht30⟩ := hK33
  refine sq_end ?_
  have hA35 := hA28.keep [(3, .pointer (some (⟨B_12, 0, none⟩ : Addr)))] ⟨rfl, trivial⟩
  refine then_normal ?_
  refine wp_seq ?_
  refine wp_seq ?_
  refine wp_region_lit ?_
  obtain ⟨x_37, hx38, ht39⟩ := ht30
  refine sq (opk_val hA35 rfl (r_load1 Try.underlying79 rfl (hA35.get rfl) hx38) fun a36 hA36 _ => ?_)
  refine sq (opk_val hA36 rfl (r_len (hA36.get rfl) Try.underlying79) fun a40 hA40 _ => ?_)
  obtain ⟨hS42, ht43⟩ := ht39
  refine sq (opk_val hA40 rfl (r_subI (hA40.get rfl) rfl hS42) fun a41 hA41 _ => ?_)
  refine sq (opk_val hA41 rfl (r_assign (hA41.get rfl)) fun a44 hA44 _ => ?_)
  refine sq_end ?_
  have hA45 := hA44.keep [(3, .pointer (some (⟨B_12, 0, none⟩ : Addr))), (4, .int .i64 ((x_37.n : Int) - 1))] ⟨rfl, rfl, trivial⟩
  refine then_normal ?_
  refine wp_block ?_
  obtain ⟨J_48, mu_49, h0213, ht212⟩ := ht43
  refine wp_loop_st (σ := Int × World) (fun s a w => Ag 49 a [(3, .pointer (some (⟨B_12, 0, none⟩ : Addr))), (4, .int .i64 s.1)] ∧ w = s.2 ∧ J_48 s.1 s.2) (fun s => mu_49 s.1 s.2) ((x_37.n : Int) - 1, w29) ⟨hA45.keep [(3, .pointer (some (⟨B_12, 0, none⟩ : Addr))), (4, .int .i64 ((x_37.n : Int) - 1))] ⟨rfl, rfl, trivial⟩, rfl, h0213⟩ ?_
  rintro ⟨i_46, w47⟩ a211 w_ ⟨hA211, hw_, hJ215⟩
  have hw_ : w47 = w_ := hw_.symm
  subst hw_
  have ht214 := ht212 i_46 _ hJ215
  refine wp_seq ?_
  refine wp_seq ?_
  refine wp_region_lit ?_
  refine sq (opk_val hA211 rfl (r_move (hA211.get rfl)) fun a216 hA216 _ => ?_)
  refine sq (opk_val hA216 rfl (r_gtr (hA216.get rfl) rfl) fun a217 hA217 _ => ?_)
  refine sq_end ?_
  have hA218 := hA217.keep [(3, .pointer (some (⟨B_12, 0, none⟩ : Addr))), (4, .int .i64 i_46), (12, .bool (decide (0 < i_46)))] ⟨rfl, rfl, rfl, trivial⟩
  refine then_normal ?_
  refine wp_cond_split (hA218.get rfl) (fun hc => ?_) (fun hc => ?_)
  · have ht219 := ht214.1 (of_decide_eq_true hc)
    clear hc
    refine wp_skip ?_
    refine then_normal ?_
    refine wp_seq ?_
    refine wp_block ?_
    refine wp_seq ?_
    refine draw' (by kernel_rfl) fun w221 hE222 => ?_
    have hC223 : Chg [] w47 w221 := hE222
    have ht224 := ht219 w221    hC223
    obtain ⟨x_225, hx226, ht227⟩ := ht224
    obtain ⟨x_228, hx229, ht230⟩ := ht227
    obtain ⟨p_233, hp234, ht235⟩ := ht230
    obtain ⟨x_238, hx239, ht240⟩ := ht235
    obtain ⟨p_243, hp244, ht245⟩ := ht240
    refine par (D := [[], [], [], [1, 2], [1, 2, 3], [1, 2, 3, 4], [0, 1, 2, 3, 4, 5], [0, 1, 2, 3, 4, 5, 6]]) (S := [0, 1, 2, 3, 4, 5, 6, 7]) (F := []) (V := VL [(0, fun v _ => v = Sl.v x_225), (1, fun v _ => v = Sl.v x_228), (2, fun v _ => v = .int .i64 i_46), (3, fun v _ => v = .pointer (some (p_233.add (i_46.toNat * 10)))), (4, fun v _ => v = .pointer (some ((p_233.add (i_46.toNat * 10)).add 0))), (5, fun v _ => v = .int .i64 x_238), (6, fun v _ => v = .pointer (some (p_243.add (x_238.toNat * 10)))), (7, fun v _ => v = .pointer (some (p_243.add (x_238.toNat * 10))))]) hA218 (by kernel_rfl) ⟨fun _ _ _ _ h => by first | exact h | (change _ = _ at h; change _ = _; exact h), fun _ _ _ _ h => by first | exact h | (change _ = _ at h; change _ = _; exact h), fun _ _ _ _ h => by first | exact h | (change _ = _ at h; change _ = _; exact h), fun _ _ _ _ h => by first | exact h | (change _ = _ at h; change _ = _; exact h), fun _ _ _ _ h => by first | exact h | (change _ = _ at h; change _ = _; exact h), fun _ _ _ _ h => by first | exact h | (change _ = _ at h; change _ = _; exact h), fun _ _ _ _ h => by first | exact h | (change _ = _ at h; change _ = _; exact h), fun _ _ _ _ h => by first | exact h | (change _ = _ at h; change _ = _; exact h), trivial⟩ ⟨?_, ?_, ?_, ?_, ?_, ?_, ?_, ?_, trivial⟩ ?_
    · intro a w hT
      have hAp := hT.ag hA218 [(3, .pointer (some (⟨B_12, 0, none⟩ : Addr)))] ⟨rfl, trivial⟩ (by kernel_rfl)
      exact opk_val hAp rfl (r_load1 Try.underlying79 rfl (hAp.get rfl) (Ext.cell hT.chg hx226)) fun _ _ e => ⟨_, e, Chg.refl _ _, fun _ => Eq.refl _⟩
    · intro a w hT
      have hAp := hT.ag hA218 [(3, .pointer (some (⟨B_12, 0, none⟩ : Addr)))] ⟨rfl, trivial⟩ (by kernel_rfl)
      exact opk_val hAp rfl (r_load1 Try.underlying79 rfl (hAp.get rfl) (Ext.cell hT.chg hx229)) fun _ _ e => ⟨_, e, Chg.refl _ _, fun _ => Eq.refl _⟩
    · intro a w hT
      have hAp := hT.ag hA218 [(4, .int .i64 i_46)] ⟨rfl, trivial⟩ (by kernel_rfl)
      exact opk_val hAp rfl (r_move (hAp.get rfl)) fun _ _ e => ⟨_, e, Chg.refl _ _, fun _ => Eq.refl _⟩
    · intro a w hT
      have hAp := hT.ag hA218 [] trivial (by kernel_rfl)
      have e231 : a.tmps.getD 16 undef = Sl.v x_228 := hT.vals 1 rfl 16 rfl
      have hAp := hAp.add e231
      have e232 : a.tmps.getD 17 undef = .int .i64 i_46 := hT.vals 2 rfl 17 rfl
      have hAp := hAp.add e232
      exact opk_val hAp rfl (r_indexAddr (hAp.get rfl) (hAp.get rfl) Try.underlying79 ti_86 hp234.1 hp234.2) fun _ _ e => ⟨_, e, Chg.refl _ _, fun _ => Eq.refl _⟩
    · intro a w hT
      have hAp := hT.ag hA218 [] trivial (by kernel_rfl)
      have e236 : a.tmps.getD 18 undef = .pointer (some (p_233.add (i_46.toNat * 10))) := hT.vals 3 rfl 18 rfl
      have hAp := hAp.add e236
      exact opk_val hAp rfl (r_fieldAddr (hAp.get rfl) Try.underlying86 rfl ti_3 (by decide)) fun _ _ e => ⟨_, e, Chg.refl _ _, fun _ => Eq.refl _⟩
    · intro a w hT
      have hAp := hT.ag hA218 [] trivial (by kernel_rfl)
      have e237 : a.tmps.getD 19 undef = .pointer (some ((p_233.add (i_46.toNat * 10)).add 0)) := hT.vals 4 rfl 19 rfl
      have hAp := hAp.add e237
      exact opk_val hAp rfl (r_load1 Try.underlying3 rfl (hAp.get rfl) (Ext.cell hT.chg hx239)) fun _ _ e => ⟨_, e, Chg.refl _ _, fun _ => Eq.refl _⟩
    · intro a w hT
      have hAp := hT.ag hA218 [] trivial (by kernel_rfl)
      have e241 : a.tmps.getD 15 undef = Sl.v x_225 := hT.vals 0 rfl 15 rfl
      have hAp := hAp.add e241
      have e242 : a.tmps.getD 20 undef = .int .i64 x_238 := hT.vals 5 rfl 20 rfl
      have hAp := hAp.add e242
      exact opk_val hAp rfl (r_indexAddr (hAp.get rfl) (hAp.get rfl) Try.underlying79 ti_86 hp244.1 hp244.2) fun _ _ e => ⟨_, e, Chg.refl _ _, fun _ => Eq.refl _⟩
    · intro a w hT
      have hAp := hT.ag hA218 [] trivial (by kernel_rfl)
      have e246 : a.tmps.getD 21 undef = .pointer (some (p_243.add (x_238.toNat * 10))) := hT.vals 6 rfl 21 rfl
      have hAp := hAp.add e246
      exact opk_val hAp rfl (r_assign (hAp.get rfl)) fun _ _ e => ⟨_, e, Chg.refl _ _, fun _ => Eq.refl _⟩
    · intro a247 w248 hE249 hag250 hv251
      have hA247 := hag250 [(3, .pointer (some (⟨B_12, 0, none⟩ : Addr))), (4, .int .i64 i_46)] ⟨rfl, rfl, trivial⟩ (by kernel_rfl)
      have e253 : a247.tmps.getD 5 undef = .pointer (some (p_243.add (x_238.toNat * 10))) := hv251 7 rfl 5 rfl
      have hA254 := hA247.add e253
      have hC255 : Chg [] w221 w248 := hE249
      refine PR_end (by kernel_rfl) ?_
      have hA256 := hA254.keep [(3, .pointer (some (⟨B_12, 0, none⟩ : Addr))), (4, .int .i64 i_46), (5, .pointer (some (p_243.add (x_238.toNat * 10))))] ⟨rfl, rfl, rfl, trivial⟩
      refine then_normal ?_
      refine wp_seq ?_
      refine draw' (by kernel_rfl) fun w257 hE258 => ?_
      have hC259 := hC255.more hE258
      have ht260 := ht245 w257    hC259
      obtain ⟨x_264, hx265, ht266⟩ := ht260
      obtain ⟨x_267, hx268, ht269⟩ := ht266
      obtain ⟨p_272, hp273, ht274⟩ := ht269
      obtain ⟨x_277, hx278, ht279⟩ := ht274
      obtain ⟨hS282, ht283⟩ := ht279
      refine par (D := [[], [0], [0, 1], [0, 1, 2], [], [], [4, 5], [4, 5, 6], [4, 5, 6, 7], [0, 1, 2, 3, 4, 5, 6, 7, 8], [0, 1, 2, 3, 4, 5, 6, 7, 8, 9], [0, 1, 2, 3, 4, 5, 6, 7, 8, 9, 10], [0, 1, 2, 3, 4, 5, 6, 7, 8, 9, 10, 11]]) (S := [0, 1, 2, 3, 4, 5, 6, 7, 8, 9, 10, 11]) (F := []) (V := VL [(0, fun v _ => v = .pointer (some (p_243.add (x_238.toNat * 10)))), (1, fun v _ => v = .pointer (some (p_243.add (x_238.toNat * 10)))), (2, fun v _ => v = .pointer (some ((p_243.add (x_238.toNat * 10)).add 1))), (3, fun v _ => v = .int .i64 x_264), (4, fun v _ => v = Sl.v x_267), (5, fun v _ => v = .int .i64 i_46), (6, fun v _ => v = .pointer (some (p_272.add (i_46.toNat * 10)))), (7, fun v _ => v = .pointer (some ((p_272.add (i_46.toNat * 10)).add 1))), (8, fun v _ => v = .int .i64 x_277), (9, fun v _ => v = .int .i64 (x_264 + x_277)), (10, fun v _ => v = .pointer (some (p_243.add (x_238.toNat * 10)))), (11, fun v _ => v = .pointer (some ((p_243.add (x_238.toNat * 10)).add 1)))]) hA256 (by kernel_rfl) ⟨fun _ _ _ _ h => by first | exact h | (change _ = _ at h; change _ = _; exact h), fun _ _ _ _ h => by first | exact h | (change _ = _ at h; change _ = _; exact h), fun _ _ _ _ h => by first | exact h | (change _ = _ at h; change _ = _; exact h), fun _ _ _ _ h => by first | exact h | (change _ = _ at h; change _ = _; exact h), fun _ _ _ _ h => by first | exact h | (change _ = _ at h; change _ = _; exact h), fun _ _ _ _ h => by first | exact h | (change _ = _ at h; change _ = _; exact h), fun _ _ _ _ h => by first | exact h | (change _ = _ at h; change _ = _; exact h), fun _ _ _ _ h => by first | exact h | (change _ = _ at h; change _ = _; exact h), fun _ _ _ _ h => by first | exact h | (change _ = _ at h; change _ = _; exact h), fun _ _ _ _ h => by first | exact h | (change _ = _ at h; change _ = _; exact h), fun _ _ _ _ h => by first | exact h | (change _ = _ at h; change _ = _; exact h), fun _ _ _ _ h => by first | exact h | (change _ = _ at h; change _ = _; exact h), trivial⟩ ⟨?_, ?_, ?_, ?_, ?_, ?_, ?_, ?_, ?_, ?_, ?_, ?_, trivial⟩ ?_
      · intro a w hT
        have hAp := hT.ag hA256 [(5, .pointer (some (p_243.add (x_238.toNat * 10))))] ⟨rfl, trivial⟩ (by kernel_rfl)
        exact opk_val hAp rfl (r_move (hAp.get rfl)) fun _ _ e => ⟨_, e, Chg.refl _ _, fun _ => Eq.refl _⟩
      · intro a w hT
        have hAp := hT.ag hA256 [] trivial (by kernel_rfl)
        have e261 : a.tmps.getD 22 undef = .pointer (some (p_243.add (x_238.toNat * 10))) := hT.vals 0 rfl 22 rfl
        have hAp := hAp.add e261
        exact opk_val hAp rfl (r_nilCheck (hAp.get rfl)) fun _ _ e => ⟨_, e, Chg.refl _ _, fun _ => Eq.refl _⟩
      · intro a w hT
        have hAp := hT.ag hA256 [] trivial (by kernel_rfl)
        have e262 : a.tmps.getD 23 undef = .pointer (some (p_243.add (x_238.toNat * 10))) := hT.vals 1 rfl 23 rfl
        have hAp := hAp.add e262
        exact opk_val hAp rfl (r_fieldAddr (hAp.get rfl) Try.underlying86 rfl ti_3 (by decide)) fun _ _ e => ⟨_, e, Chg.refl _ _, fun _ => Eq.refl _⟩
      · intro a w hT
        have hAp := hT.ag hA256 [] trivial (by kernel_rfl)
        have e263 : a.tmps.getD 24 undef = .pointer (some ((p_243.add (x_238.toNat * 10)).add 1)) := hT.vals 2 rfl 24 rfl
        have hAp := hAp.add e263
        exact opk_val hAp rfl (r_load1 Try.underlying3 rfl (hAp.get rfl) (Ext.cell hT.chg hx265)) fun _ _ e => ⟨_, e, Chg.refl _ _, fun _ => Eq.refl _⟩
      · intro a w hT
        have hAp := hT.ag hA256 [(3, .pointer (some (⟨B_12, 0, none⟩ : Addr)))] ⟨rfl, trivial⟩ (by kernel_rfl)
        exact opk_val hAp rfl (r_load1 Try.underlying79 rfl (hAp.get rfl) (Ext.cell hT.chg hx268)) fun _ _ e => ⟨_, e, Chg.refl _ _, fun _ => Eq.refl _⟩
      · intro a w hT
        have hAp := hT.ag hA256 [(4, .int .i64 i_46)] ⟨rfl, trivial⟩ (by kernel_rfl)
        exact opk_val hAp rfl (r_move (hAp.get rfl)) fun _ _ e => ⟨_, e, Chg.refl _ _, fun _ => Eq.refl _⟩
      · intro a w hT
        have hAp := hT.ag hA256 [] trivial (by kernel_rfl)
        have e270 : a.tmps.getD 26 undef = Sl.v x_267 := hT.vals 4 rfl 26 rfl
        have hAp := hAp.add e270
        have e271 : a.tmps.getD 27 undef = .int .i64 i_46 := hT.vals 5 rfl 27 rfl
        have hAp := hAp.add e271
        exact opk_val hAp rfl (r_indexAddr (hAp.get rfl) (hAp.get rfl) Try.underlying79 ti_86 hp273.1 hp273.2) fun _ _ e => ⟨_, e, Chg.refl _ _, fun _ => Eq.refl _⟩
      · intro a w hT
        have hAp := hT.ag hA256 [] trivial (by kernel_rfl)
        have e275 : a.tmps.getD 28 undef = .pointer (some (p_272.add (i_46.toNat * 10))) := hT.vals 6 rfl 28 rfl
        have hAp := hAp.add e275
        exact opk_val hAp rfl (r_fieldAddr (hAp.get rfl) Try.underlying86 rfl ti_3 (by decide)) fun _ _ e => ⟨_, e, Chg.refl _ _, fun _ => Eq.refl _⟩
      · intro a w hT
        have hAp := hT.ag hA256 [] trivial (by kernel_rfl)
        have e276 : a.tmps.getD 29 undef = .pointer (some ((p_272.add (i_46.toNat * 10)).add 1)) := hT.vals 7 rfl 29 rfl
        have hAp := hAp.add e276
        exact opk_val hAp rfl (r_load1 Try.underlying3 rfl (hAp.get rfl) (Ext.cell hT.chg hx278)) fun _ _ e => ⟨_, e, Chg.refl _ _, fun _ => Eq.refl _⟩
      · intro a w hT
        have hAp := hT.ag hA256 [] trivial (by kernel_rfl)
        have e280 : a.tmps.getD 25 undef = .int .i64 x_264 := hT.vals 3 rfl 25 rfl
        have hAp := hAp.add e280
        have e281 : a.tmps.getD 30 undef = .int .i64 x_277 := hT.vals 8 rfl 30 rfl
        have hAp := hAp.add e281
        exact opk_val hAp rfl (r_addI (hAp.get rfl) (hAp.get rfl) hS282) fun _ _ e => ⟨_, e, Chg.refl _ _, fun _ => Eq.refl _⟩
      · intro a w hT
        have hAp := hT.ag hA256 [] trivial (by kernel_rfl)
        have e284 : a.tmps.getD 22 undef = .pointer (some (p_243.add (x_238.toNat * 10))) := hT.vals 0 rfl 22 rfl
        have hAp := hAp.add e284
        exact opk_val hAp rfl (r_nilCheck (hAp.get rfl)) fun _ _ e => ⟨_, e, Chg.refl _ _, fun _ => Eq.refl _⟩
      · intro a w hT
        have hAp := hT.ag hA256 [] trivial (by kernel_rfl)
        have e285 : a.tmps.getD 32 undef = .pointer (some (p_243.add (x_238.toNat * 10))) := hT.vals 10 rfl 32 rfl
        have hAp := hAp.add e285
        exact opk_val hAp rfl (r_fieldAddr (hAp.get rfl) Try.underlying86 rfl ti_3 (by decide)) fun _ _ e => ⟨_, e, Chg.refl _ _, fun _ => Eq.refl _⟩
      · intro a286 w287 hE288 hag289 hv290
        have hA286 := hag289 [(3, .pointer (some (⟨B_12, 0, none⟩ : Addr))), (4, .int .i64 i_46), (5, .pointer (some (p_243.add (x_238.toNat * 10))))] ⟨rfl, rfl, rfl, trivial⟩ (by kernel_rfl)
        have e292 : a286.tmps.getD 31 undef = .int .i64 (x_264 + x_277) := hv290 9 rfl 31 rfl
        have hA293 := hA286.add e292
        have e294 : a286.tmps.getD 33 undef = .pointer (some ((p_243.add (x_238.toNat * 10)).add 1)) := hv290 11 rfl 33 rfl
        have hA295 := hA293.add e294
        have hC296 : Chg [] w257 w287 := hE288
        have ht301 := ht283 w287    hC296
        obtain ⟨B_302, o_303, T_304, cs_305, he306, hb307, hl308, hx309, ht310⟩ := ht301
        refine one (D := [[], [0], [0, 1], [0, 1, 2], [], [], [4, 5], [4, 5, 6], [4, 5, 6, 7], [0, 1, 2, 3, 4, 5, 6, 7, 8], [0, 1, 2, 3, 4, 5, 6, 7, 8, 9], [0, 1, 2, 3, 4, 5, 6, 7, 8, 9, 10], [0, 1, 2, 3, 4, 5, 6, 7, 8, 9, 10, 11]]) (i := 12) rfl (by kernel_rfl) (opk_store hA295 hb307 (r_store (vs := [.int .i64 (x_264 + x_277)]) (((hA295.get rfl)).trans (congrArg (fun a => Value.pointer (some a)) he306)) (hA295.get rfl) rfl ti_3 hb307 (Nat.ble_eq_true_of_le hl308) (ones_all [.int .i64 (x_264 + x_277)] rfl)) fun a298 w297 hS299 hB300 hA298 => ?_)
        have ht311 := ht310 w297 hS299 hB300
        refine PR_end (by kernel_rfl) ?_
        have hA312 := hA298.keep [(3, .pointer (some (⟨B_12, 0, none⟩ : Addr))), (4, .int .i64 i_46), (5, .pointer (some (p_243.add (x_238.toNat * 10))))] ⟨rfl, rfl, rfl, trivial⟩
        refine then_normal ?_
        refine draw' (by kernel_rfl) fun w313 hE314 => ?_
        have hC315 : Chg [] w297 w313 := hE314
        have ht316 := ht311 w313    hC315
        obtain ⟨x_320, hx321, ht322⟩ := ht316
        obtain ⟨x_323, hx324, ht325⟩ := ht322
        obtain ⟨p_328, hp329, ht330⟩ := ht325
        obtain ⟨x_333, hx334, ht335⟩ := ht330
        obtain ⟨hS337, ht338⟩ := ht335
        refine par (D := [[], [], [1], [1, 2], [1, 2, 3], [], [], [5, 6], [5, 6, 7], [5, 6, 7, 8], [5, 6, 7, 8, 9], [1, 2, 3, 4, 5, 6, 7, 8, 9, 10], [0, 1, 2, 3, 4, 5, 6, 7, 8, 9, 10, 11], [0, 1, 2, 3, 4, 5, 6, 7, 8, 9, 10, 11, 12], [0, 1, 2, 3, 4, 5, 6, 7, 8, 9, 10, 11, 12, 13]]) (S := [0, 1, 2, 3, 4, 5, 6, 7, 8, 9, 10, 11, 12, 13]) (F := []) (V := VL [(0, fun v _ => v = .pointer (some (p_243.add (x_238.toNat * 10)))), (1, fun v _ => v = .pointer (some (p_243.add (x_238.toNat * 10)))), (2, fun v _ => v = .pointer (some (p_243.add (x_238.toNat * 10)))), (3, fun v _ => v = .pointer (some ((p_243.add (x_238.toNat * 10)).add 3))), (4, fun v _ => v = .int .i64 x_320), (5, fun v _ => v = Sl.v x_323), (6, fun v _ => v = .int .i64 i_46), (7, fun v _ => v = .pointer (some (p_328.add (i_46.toNat * 10)))), (8, fun v _ => v = .pointer (some ((p_328.add (i_46.toNat * 10)).add 3))), (9, fun v _ => v = .int .i64 x_333), (10, fun v _ => v = .int .i64 (x_333 + 1)), (11, fun v _ => v = .int .i64 (max x_320 (x_333 + 1))), (12, fun v _ => v = .pointer (some (p_243.add (x_238.toNat * 10)))), (13, fun v _ => v = .pointer (some ((p_243.add (x_238.toNat * 10)).add 3)))]) hA312 (by kernel_rfl) ⟨fun _ _ _ _ h => by first | exact h | (change _ = _ at h; change _ = _; exact h), fun _ _ _ _ h => by first | exact h | (change _ = _ at h; change _ = _; exact h), fun _ _ _ _ h => by first | exact h | (change _ = _ at h; change _ = _; exact h), fun _ _ _ _ h => by first | exact h | (change _ = _ at h; change _ = _; exact h), fun _ _ _ _ h => by first | exact h | (change _ = _ at h; change _ = _; exact h), fun _ _ _ _ h => by first | exact h | (change _ = _ at h; change _ = _; exact h), fun _ _ _ _ h => by first | exact h | (change _ = _ at h; change _ = _; exact h), fun _ _ _ _ h => by first | exact h | (change _ = _ at h; change _ = _; exact h), fun _ _ _ _ h => by first | exact h | (change _ = _ at h; change _ = _; exact h), fun _ _ _ _ h => by first | exact h | (change _ = _ at h; change _ = _; exact h), fun _ _ _ _ h => by first | exact h | (change _ = _ at h; change _ = _; exact h), fun _ _ _ _ h => by first | exact h | (change _ = _ at h; change _ = _; exact h), fun _ _ _ _ h => by first | exact h | (change _ = _ at h; change _ = _; exact h), fun _ _ _ _ h => by first | exact h | (change _ = _ at h; change _ = _; exact h), trivial⟩ ⟨?_, ?_, ?_, ?_, ?_, ?_, ?_, ?_, ?_, ?_, ?_, ?_, ?_, ?_, trivial⟩ ?_
        · intro a w hT
          have hAp := hT.ag hA312 [(5, .pointer (some (p_243.add (x_238.toNat * 10))))] ⟨rfl, trivial⟩ (by kernel_rfl)
          exact opk_val hAp rfl (r_move (hAp.get rfl)) fun _ _ e => ⟨_, e, Chg.refl _ _, fun _ => Eq.refl _⟩
        · intro a w hT
          have hAp := hT.ag hA312 [(5, .pointer (some (p_243.add (x_238.toNat * 10))))] ⟨rfl, trivial⟩ (by kernel_rfl)
          exact opk_val hAp rfl (r_move (hAp.get rfl)) fun _ _ e => ⟨_, e, Chg.refl _ _, fun _ => Eq.refl _⟩
        · intro a w hT
          have hAp := hT.ag hA312 [] trivial (by kernel_rfl)
          have e317 : a.tmps.getD 35 undef = .pointer (some (p_243.add (x_238.toNat * 10))) := hT.vals 1 rfl 35 rfl
          have hAp := hAp.add e317
          exact opk_val hAp rfl (r_nilCheck (hAp.get rfl)) fun _ _ e => ⟨_, e, Chg.refl _ _, fun _ => Eq.refl _⟩
        · intro a w hT
          have hAp := hT.ag hA312 [] trivial (by kernel_rfl)
          have e318 : a.tmps.getD 36 undef = .pointer (some (p_243.add (x_238.toNat * 10))) := hT.vals 2 rfl 36 rfl
          have hAp := hAp.add e318
          exact opk_val hAp rfl (r_fieldAddr (hAp.get rfl) Try.underlying86 rfl ti_3 (by decide)) fun _ _ e => ⟨_, e, Chg.refl _ _, fun _ => Eq.refl _⟩
        · intro a w hT
          have hAp := hT.ag hA312 [] trivial (by kernel_rfl)
          have e319 : a.tmps.getD 37 undef = .pointer (some ((p_243.add (x_238.toNat * 10)).add 3)) := hT.vals 3 rfl 37 rfl
          have hAp := hAp.add e319
          exact opk_val hAp rfl (r_load1 Try.underlying3 rfl (hAp.get rfl) (Ext.cell hT.chg hx321)) fun _ _ e => ⟨_, e, Chg.refl _ _, fun _ => Eq.refl _⟩
        · intro a w hT
          have hAp := hT.ag hA312 [(3, .pointer (some (⟨B_12, 0, none⟩ : Addr)))] ⟨rfl, trivial⟩ (by kernel_rfl)
          exact opk_val hAp rfl (r_load1 Try.underlying79 rfl (hAp.get rfl) (Ext.cell hT.chg hx324)) fun _ _ e => ⟨_, e, Chg.refl _ _, fun _ => Eq.refl _⟩
        · intro a w hT
          have hAp := hT.ag hA312 [(4, .int .i64 i_46)] ⟨rfl, trivial⟩ (by kernel_rfl)
          exact opk_val hAp rfl (r_move (hAp.get rfl)) fun _ _ e => ⟨_, e, Chg.refl _ _, fun _ => Eq.refl _⟩
        · intro a w hT
          have hAp := hT.ag hA312 [] trivial (by kernel_rfl)
          have e326 : a.tmps.getD 39 undef = Sl.v x_323 := hT.vals 5 rfl 39 rfl
          have hAp := hAp.add e326
          have e327 : a.tmps.getD 40 undef = .int .i64 i_46 := hT.vals 6 rfl 40 rfl
          have hAp := hAp.add e327
          exact opk_val hAp rfl (r_indexAddr (hAp.get rfl) (hAp.get rfl) Try.underlying79 ti_86 hp329.1 hp329.2) fun _ _ e => ⟨_, e, Chg.refl _ _, fun _ => Eq.refl _⟩
        · intro a w hT
          have hAp := hT.ag hA312 [] trivial (by kernel_rfl)
          have e331 : a.tmps.getD 41 undef = .pointer (some (p_328.add (i_46.toNat * 10))) := hT.vals 7 rfl 41 rfl
          have hAp := hAp.add e331
          exact opk_val hAp rfl (r_fieldAddr (hAp.get rfl) Try.underlying86 rfl ti_3 (by decide)) fun _ _ e => ⟨_, e, Chg.refl _ _, fun _ => Eq.refl _⟩
        · intro a w hT
          have hAp := hT.ag hA312 [] trivial (by kernel_rfl)
          have e332 : a.tmps.getD 42 undef = .pointer (some ((p_328.add (i_46.toNat * 10)).add 3)) := hT.vals 8 rfl 42 rfl
          have hAp := hAp.add e332
          exact opk_val hAp rfl (r_load1 Try.underlying3 rfl (hAp.get rfl) (Ext.cell hT.chg hx334)) fun _ _ e => ⟨_, e, Chg.refl _ _, fun _ => Eq.refl _⟩
        · intro a w hT
          have hAp := hT.ag hA312 [] trivial (by kernel_rfl)
          have e336 : a.tmps.getD 43 undef = .int .i64 x_333 := hT.vals 9 rfl 43 rfl
          have hAp := hAp.add e336
          exact opk_val hAp rfl (r_addI (hAp.get rfl) rfl hS337) fun _ _ e => ⟨_, e, Chg.refl _ _, fun _ => Eq.refl _⟩
        · intro a w hT
          have hAp := hT.ag hA312 [] trivial (by kernel_rfl)
          have e339 : a.tmps.getD 38 undef = .int .i64 x_320 := hT.vals 4 rfl 38 rfl
          have hAp := hAp.add e339
          have e340 : a.tmps.getD 44 undef = .int .i64 (x_333 + 1) := hT.vals 10 rfl 44 rfl
          have hAp := hAp.add e340
          exact opk_val hAp rfl (r_max (hAp.get rfl) (hAp.get rfl)) fun _ _ e => ⟨_, e, Chg.refl _ _, fun _ => Eq.refl _⟩
        · intro a w hT
          have hAp := hT.ag hA312 [] trivial (by kernel_rfl)
          have e341 : a.tmps.getD 34 undef = .pointer (some (p_243.add (x_238.toNat * 10))) := hT.vals 0 rfl 34 rfl
          have hAp := hAp.add e341
          exact opk_val hAp rfl (r_nilCheck (hAp.get rfl)) fun _ _ e => ⟨_, e, Chg.refl _ _, fun _ => Eq.refl _⟩
        · intro a w hT
          have hAp := hT.ag hA312 [] trivial (by kernel_rfl)
          have e342 : a.tmps.getD 46 undef = .pointer (some (p_243.add (x_238.toNat * 10))) := hT.vals 12 rfl 46 rfl
          have hAp := hAp.add e342
          exact opk_val hAp rfl (r_fieldAddr (hAp.get rfl) Try.underlying86 rfl ti_3 (by decide)) fun _ _ e => ⟨_, e, Chg.refl _ _, fun _ => Eq.refl _⟩
        · intro a343 w344 hE345 hag346 hv347
          have hA343 := hag346 [(3, .pointer (some (⟨B_12, 0, none⟩ : Addr))), (4, .int .i64 i_46)] ⟨rfl, rfl, trivial⟩ (by kernel_rfl)
          have e349 : a343.tmps.getD 45 undef = .int .i64 (max x_320 (x_333 + 1)) := hv347 11 rfl 45 rfl
          have hA350 := hA343.add e349
          have e351 : a343.tmps.getD 47 undef = .pointer (some ((p_243.add (x_238.toNat * 10)).add 3)) := hv347 13 rfl 47 rfl
          have hA352 := hA350.add e351
          have hC353 : Chg [] w313 w344 := hE345
          have ht358 := ht338 w344    hC353
          obtain ⟨B_359, o_360, T_361, cs_362, he363, hb364, hl365, hx366, ht367⟩ := ht358
          refine one (D := [[], [], [1], [1, 2], [1, 2, 3], [], [], [5, 6], [5, 6, 7], [5, 6, 7, 8], [5, 6, 7, 8, 9], [1, 2, 3, 4, 5, 6, 7, 8, 9, 10], [0, 1, 2, 3, 4, 5, 6, 7, 8, 9, 10, 11], [0, 1, 2, 3, 4, 5, 6, 7, 8, 9, 10, 11, 12], [0, 1, 2, 3, 4, 5, 6, 7, 8, 9, 10, 11, 12, 13]]) (i := 14) rfl (by kernel_rfl) (opk_store hA352 hb364 (r_store (vs := [.int .i64 (max x_320 (x_333 + 1))]) (((hA352.get rfl)).trans (congrArg (fun a => Value.pointer (some a)) he363)) (hA352.get rfl) rfl ti_3 hb364 (Nat.ble_eq_true_of_le hl365) (ones_all [.int .i64 (max x_320 (x_333 + 1))] rfl)) fun a355 w354 hS356 hB357 hA355 => ?_)
          have ht368 := ht367 w354 hS356 hB357
          refine PR_end (by kernel_rfl) ?_
          have hA369 := hA355.keep [(3, .pointer (some (⟨B_12, 0, none⟩ : Addr))), (4, .int .i64 i_46)] ⟨rfl, rfl, trivial⟩
          refine block_normal ?_
          refine then_normal ?_
          refine wp_region_lit ?_
          refine sq (opk_val hA369 rfl (r_move (hA369.get rfl)) fun a370 hA370 _ => ?_)
          obtain ⟨hS372, ht373⟩ := ht368
          refine sq (opk_val hA370 rfl (r_subI (hA370.get rfl) rfl hS372) fun a371 hA371 _ => ?_)
          refine sq (opk_val hA371 rfl (r_assign (hA371.get rfl)) fun a374 hA374 _ => ?_)
          refine sq_end ?_
          have hA375 := hA374.keep [(3, .pointer (some (⟨B_12, 0, none⟩ : Addr))), (4, .int .i64 (i_46 - 1))] ⟨rfl, rfl, trivial⟩
          have hA376 := hA375.keep [(3, .pointer (some (⟨B_12, 0, none⟩ : Addr))), (4, .int .i64 (i_46 - 1))] ⟨rfl, rfl, trivial⟩
          exact then_normal ⟨(i_46 - 1, w354), ⟨hA376, rfl, ht373.1⟩, ht373.2⟩
  · have ht220 := ht214.2 (of_decide_eq_false hc)
    clear hc
    refine wp_exit ?_
    refine then_exit ?_
    refine then_exit ?_
    refine block_hit ?_
    have hA377 := hA218.keep [(3, .pointer (some (⟨B_12, 0, none⟩ : Addr)))] ⟨rfl, trivial⟩
    refine then_normal ?_
    refine wp_seq ?_
    refine wp_region_lit ?_
    obtain ⟨x_379, hx380, ht381⟩ := ht220
    refine sq (opk_val hA377 rfl (r_load1 Try.underlying79 rfl (hA377.get rfl) hx380) fun a378 hA378 _ => ?_)
    refine sq (opk_val hA378 rfl (r_assign (hA378.get rfl)) fun a382 hA382 _ => ?_)
    refine sq_end ?_
    have hA383 := hA382.keep [(2, Sl.v x_379)] ⟨rfl, trivial⟩
    refine then_normal ?_
    refine wp_ret ?_
    exact res_all (vs := [Sl.v x_379]) rfl hA383 ⟨res_of_tmp hA383 rfl, trivial⟩ ht381

/-- The condition of topiary/walk.each. -/
def walk_each.vc (t_1 : Addr) (look_2 : Value) (R : Value → World → Prop) (w : World) : Prop :=
∀ (w6 : World) (B_5 : Nat), New w B_5 w6 → Chg [] w w6 →
∀ (_ : Box w6 B_5 114 [.pointer (some t_1), .int .i64 (-1), .int .i64 0, .int .i64 0]),
∃ (J_20 : Sl → Int → World → Prop) (mu_21 : Sl → Int → World → Nat),
J_20 (Sl.mk (some ⟨B_5, 0, none⟩) 1 1) 0 w6 ∧
(∀ (stack_17 : Sl) (id_18 : Int) (w19 : World), J_20 stack_17 id_18 w19 →
((0 < (stack_17.n : Int)) →
(I64 ((stack_17.n : Int) - 1)) ∧
((0 : Int) ≤ (stack_17.n : Int) - 1 ∧ (stack_17.n : Int) - 1 < (stack_17.n : Int)) ∧ ∃ p_317 : Addr, stack_17.a = some p_317 ∧
∃ (x_323_t : Option Addr) (x_323_parent : Int) (x_323_depth : Int) (x_323_place : Int), (Cells w19 (p_317.add (((stack_17.n : Int) - 1).toNat * 4)) [.pointer x_323_t, .int .i64 x_323_parent, .int .i64 x_323_depth, .int .i64 x_323_place]) ∧
(I64 ((stack_17.n : Int) - 1)) ∧
((0 : Int) ≤ (stack_17.n : Int) - 1 ∧ (stack_17.n : Int) - 1 ≤ (stack_17.c : Int)) ∧
∃ (f_356 : FuncId) (fst_357 cap_358 : Array Value), (look_2 = .func (.func f_356) fst_357 cap_358) ∧
∀ (w334 : World) (B_326 : Nat), New w19 B_326 w334 → Chg [] w19 w334 →
Body Try.prog f_356 ∧
CallK Try.prog f_356 (fst_357 ++ #[.int .i64 id_18, .agg #[.pointer x_323_t, .int .i64 x_323_parent, .int .i64 x_323_depth, .int .i64 x_323_place]] ++ cap_358) w334 [B_326] (fun v w364 => ∃ (r_362 : Bool), v = .bool r_362 ∧
((r_362 = false) →
R (.tuple #[]) w364) ∧
((r_362 = true) →
∃ p_381 : Addr, (x_323_t = some p_381) ∧
∃ (x_386 : Sl), (w364.cell? (p_381.add 4) = some (Sl.v x_386)) ∧
(I64 ((x_386.n : Int) - 1)) ∧
∃ (J_398 : Sl → Int → World → Prop) (mu_399 : Sl → Int → World → Nat),
J_398 (Sl.cut stack_17 4 0 ((stack_17.n : Int) - 1).toNat stack_17.c) ((x_386.n : Int) - 1) w364 ∧
(∀ (stack_395 : Sl) (i_396 : Int) (w397 : World), J_398 stack_395 i_396 w397 →
((0 ≤ i_396) →
∀ (w495 : World), Chg [] w397 w495 →
∃ p_502 : Addr, (x_323_t = some p_502) ∧
∃ (x_507 : Sl), (w495.cell? (p_502.add 4) = some (Sl.v x_507)) ∧
∃ p_512 : Addr, (((0 : Int) ≤ i_396 ∧ i_396 < (x_507.n : Int)) ∧ x_507.a = some p_512) ∧
(I64 (x_323_depth + 1)) ∧
∀ (w530 : World) (B_524 : Nat), Ext w495 w530 → w495.heap.size ≤ B_524 → Box w530 B_524 114 [.pointer (some (p_512.add (i_396.toNat * 5))), .int .i64 id_18, .int .i64 (x_323_depth + 1), .int .i64 i_396] → 
∀ (_ : Box w530 B_524 114 [.pointer (some (p_512.add (i_396.toNat * 5))), .int .i64 id_18, .int .i64 (x_323_depth + 1), .int .i64 i_396]),
RunK Try.prog (Builtin.append_ #[133, 133] 133 #[Sl.v stack_395, Sl.v (Sl.mk (some ⟨B_524, 0, none⟩) 1 1)]) w530 [B_326] (fun v w547 => ∃ (r_553 : Sl), v = Sl.v r_553 ∧
(I64 (i_396 - 1)) ∧
∀ (w556 : World), Chg [] w547 w556 →
J_398 r_553 (i_396 - 1) w556 ∧ mu_399 r_553 (i_396 - 1) w556 < mu_399 stack_395 i_396 w397)) ∧
((¬ (0 ≤ i_396)) →
(I64 (id_18 + 1)) ∧
J_20 stack_395 (id_18 + 1) w397 ∧ mu_21 stack_395 (id_18 + 1) w397 < mu_21 stack_17 id_18 w19))))) ∧
((¬ (0 < (stack_17.n : Int))) →
R (.tuple #[]) w19))
set_option maxHeartbeats 1000000 in
set_option maxRecDepth 10000 in
theorem walk_each.ok (t_1 : Addr) (look_2 : Value) {R : Value → World → Prop} {w : World} (ht0 : walk_each.vc t_1 look_2 R w) : Calls Try.prog 62 #[.pointer (some t_1), look_2] w (Ret R) := by
  refine enter [.pointer (some t_1), look_2] Try.func62 rfl Try.ntmps62 rfl ?_
  intro a0 hA0
  unfold walk_each.vc at ht0
  refine wp_scope_straight ?_
  refine wp_seq ?_
  refine wp_region_lit ?_
  refine sq (opk_val hA0 rfl (r_move (hA0.get rfl)) fun a3 hA3 _ => ?_)
  refine sq (opk_val hA3 rfl (r_build (vs := #[(0, .pointer (some t_1)), (1, .int .i64 (-1))]) (cells := #[.pointer (some t_1), .int .i64 (-1), .int .i64 0, .int .i64 0]) (map_arr2 (ml2_cons (hA3.get rfl) (ml2_cons rfl (ml2_nil)))) ti_114 Try.underlying114 pl_114 (by kernel_rfl)) fun a4 hA4 _ => ?_)
  refine sq (opk_new (fun B => .slice (some ⟨B, 0, none⟩) 1 1) hA4 rfl (r_buildSlice (vs := #[(0, .agg #[.pointer (some t_1), .int .i64 (-1), .int .i64 0, .int .i64 0])]) (cs := [.pointer (some t_1), .int .i64 (-1), .int .i64 0, .int .i64 0]) (map_arr2 (ml2_cons (hA4.get rfl) (ml2_nil))) Try.underlying133 ti_114 rfl rfl (by kernel_rfl)) fun a7 w6 B_5 hE8 hN9 hB10 hA7 _ => ?_)
  have hN11 : New w B_5 w6 := hN9
  have hC12 : Chg [] w w6 := hE8
  refine sq (opk_val hA7 rfl (r_assign (hA7.get rfl)) fun a13 hA13 _ => ?_)
  refine sq_end ?_
  have hA14 := hA13.keep [(1, look_2), (4, Sl.v (Sl.mk (some ⟨B_5, 0, none⟩) 1 1))] ⟨rfl, rfl, trivial⟩
  refine then_normal ?_
  refine wp_seq ?_
  refine wp_region_lit ?_
  refine sq (opk_val hA14 rfl (r_assign rfl) fun a15 hA15 _ => ?_)
  refine sq_end ?_
  have hA16 := hA15.keep [(1, look_2), (4, Sl.v (Sl.mk (some ⟨B_5, 0, none⟩) 1 1)), (5, .int .i64 0)] ⟨rfl, rfl, rfl, trivial⟩
  refine then_normal ?_
  refine wp_seq ?_
  refine wp_label ?_
  refine then_normal ?_
  refine wp_block ?_
  have ht298 := ht0 w6 B_5 hN11  hC12
  have ht299 := ht298 hB10
  obtain ⟨J_20, mu_21, h0302, ht301⟩ := ht299
  refine wp_loop_st (σ := Sl × Int × World) (fun s a w => Ag 59 a [(1, look_2), (4, Sl.v s.1), (5, .int .i64 s.2.1)] ∧ w = s.2.2 ∧ J_20 s.1 s.2.1 s.2.2) (fun s => mu_21 s.1 s.2.1 s.2.2) ((Sl.mk (some ⟨B_5, 0, none⟩) 1 1), 0, w6) ⟨hA16.keep [(1, look_2), (4, Sl.v (Sl.mk (some ⟨B_5, 0, none⟩) 1 1)), (5, .int .i64 0)] ⟨rfl, rfl, rfl, trivial⟩, rfl, h0302⟩ ?_
  rintro ⟨stack_17, id_18, w19⟩ a300 w_ ⟨hA300, hw_, hJ304⟩
  have hw_ : w19 = w_ := hw_.symm
  subst hw_
  have ht303 := ht301 stack_17 id_18 _ hJ304
  refine wp_seq ?_
  refine wp_seq ?_
  refine wp_region_lit ?_
  refine sq (opk_val hA300 rfl (r_move (hA300.get rfl)) fun a305 hA305 _ => ?_)
  refine sq (opk_val hA305 rfl (r_len (hA305.get rfl) Try.underlying133) fun a306 hA306 _ => ?_)
  refine sq (opk_val hA306 rfl (r_gtr (hA306.get rfl) rfl) fun a307 hA307 _ => ?_)
  refine sq_end ?_
  have hA308 := hA307.keep [(1, look_2), (4, Sl.v stack_17), (5, .int .i64 id_18), (13, .bool (decide (0 < (stack_17.n : Int))))] ⟨rfl, rfl, rfl, rfl, trivial⟩
  refine then_normal ?_
  refine wp_cond_split (hA308.get rfl) (fun hc => ?_) (fun hc => ?_)
  · have ht309 := ht303.1 (of_decide_eq_true hc)
    clear hc
    refine wp_skip ?_
    refine then_normal ?_
    refine wp_block ?_
    refine wp_seq ?_
    refine wp_region_lit ?_
    refine sq (opk_val hA308 rfl (r_move (hA308.get rfl)) fun a311 hA311 _ => ?_)
    refine sq (opk_val hA311 rfl (r_move (hA311.get rfl)) fun a312 hA312 _ => ?_)
    refine sq (opk_val hA312 rfl (r_len (hA312.get rfl) Try.underlying133) fun a313 hA313 _ => ?_)
    obtain ⟨hS315, ht316⟩ := ht309
    refine sq (opk_val hA313 rfl (r_subI (hA313.get rfl) rfl hS315) fun a314 hA314 _ => ?_)
    obtain ⟨hb318, p_317, hp319, ht320⟩ := ht316
    refine sq (opk_val hA314 rfl (r_indexAddr (hA314.get rfl) (hA314.get rfl) Try.underlying133 ti_114 hb318 hp319) fun a321 hA321 _ => ?_)
    obtain ⟨x_323_t, x_323_parent, x_323_depth, x_323_place, hx324, ht325⟩ := ht320
    refine sq (opk_val hA321 rfl (r_loadN Try.underlying114 rfl ti_114 (hA321.get rfl) hx324) fun a322 hA322 _ => ?_)
    refine sq (opk_new (fun B => .pointer (some ⟨B, 0, none⟩)) hA322 rfl (r_alloc (cs := [.pointer none, .int .i64 0, .int .i64 0, .int .i64 0]) ti_114 rfl) fun a328 w327 B_326 hE329 hN330 hB331 hA328 _ => ?_)
    have hN332 : New w19 B_326 w327 := hN330
    have hC333 : Chg [] w19 w327 := hE329
    refine sq (opk_store hA328 hB331 (r_store (vs := [.pointer x_323_t, .int .i64 x_323_parent, .int .i64 x_323_depth, .int .i64 x_323_place]) (hA328.get rfl) (hA328.get rfl) rfl ti_114 hB331 rfl (ones_all [.pointer x_323_t, .int .i64 x_323_parent, .int .i64 x_323_depth, .int .i64 x_323_place] rfl)) fun a335 w334 hS336 hB337 hA335 => ?_)
    have hB338 : Box w334 B_326 114 [.pointer x_323_t, .int .i64 x_323_parent, .int .i64 x_323_depth, .int .i64 x_323_place] := hB337
    have hC339 := hC333.storeNew hN332 hS336
    have hN340 := hN332.up hS336.size
    refine sq_end ?_
    have hA341 := hA335.keep [(1, look_2), (4, Sl.v stack_17), (5, .int .i64 id_18), (6, .pointer (some (⟨B_326, 0, none⟩ : Addr)))] ⟨rfl, rfl, rfl, rfl, trivial⟩
    refine then_normal ?_
    refine wp_seq ?_
    refine wp_region_lit ?_
    refine sq (opk_val hA341 rfl (r_move (hA341.get rfl)) fun a342 hA342 _ => ?_)
    refine sq (opk_val hA342 rfl (r_move (hA342.get rfl)) fun a343 hA343 _ => ?_)
    refine sq (opk_val hA343 rfl (r_len (hA343.get rfl) Try.underlying133) fun a344 hA344 _ => ?_)
    obtain ⟨hS346, ht347⟩ := ht325
    refine sq (opk_val hA344 rfl (r_subI (hA344.get rfl) rfl hS346) fun a345 hA345 _ => ?_)
    obtain ⟨hS349, ht350⟩ := ht347
    refine sq (opk_val hA345 rfl (r_sliceH (hA345.get rfl) (hA345.get rfl) Try.underlying133 ti_114 hS349) fun a348 hA348 _ => ?_)
    refine sq (opk_val hA348 rfl (r_assign (hA348.get rfl)) fun a351 hA351 _ => ?_)
    refine sq_end ?_
    have hA352 := hA351.keep [(1, look_2), (4, Sl.v (Sl.cut stack_17 4 0 ((stack_17.n : Int) - 1).toNat stack_17.c)), (5, .int .i64 id_18), (6, .pointer (some (⟨B_326, 0, none⟩ : Addr)))] ⟨rfl, rfl, rfl, rfl, trivial⟩
    refine then_normal ?_
    refine wp_seq ?_
    refine wp_seq ?_
    refine wp_region_lit ?_
    refine sq (opk_val hA352 rfl (r_move (hA352.get rfl)) fun a353 hA353 _ => ?_)
    refine sq (opk_val hA353 rfl (r_move (hA353.get rfl)) fun a354 hA354 _ => ?_)
    refine sq (opk_val hA354 rfl (r_loadN (cs := [.pointer x_323_t, .int .i64 x_323_parent, .int .i64 x_323_depth, .int .i64 x_323_place]) Try.underlying114 rfl ti_114 (hA354.get rfl) (hB338.part 0 _ rfl)) fun a355 hA355 _ => ?_)
    obtain ⟨f_356, fst_357, cap_358, hp359, ht360⟩ := ht350
    have ht361 := ht360 w334 B_326 hN340  hC339
    obtain ⟨hb366, ht367⟩ := ht361
    refine sq (opk_call hA355 rfl (r_callO (args := #[.int .i64 id_18, .agg #[.pointer x_323_t, .int .i64 x_323_parent, .int .i64 x_323_depth, .int .i64 x_323_place]]) hb366 (map_arr (ml_cons (hA355.get rfl) (ml_cons (hA355.get rfl) ml_nil))) (((hA355.get rfl)).trans hp359)) ht367 fun a363 v371 w364 hA363 _ hn368 hz369 hK370 => ?_)
    obtain ⟨r_362, rfl, ht365⟩ := hK370
    have hB372 := hB338.kept hn368 (.head _)
    refine sq (opk_val hA363 rfl (r_not (hA363.get rfl)) fun a373 hA373 _ => ?_)
    refine sq_end ?_
    have hA374 := hA373.keep [(1, look_2), (4, Sl.v (Sl.cut stack_17 4 0 ((stack_17.n : Int) - 1).toNat stack_17.c)), (5, .int .i64 id_18), (6, .pointer (some (⟨B_326, 0, none⟩ : Addr))), (29, .bool (!r_362))] ⟨rfl, rfl, rfl, rfl, rfl, trivial⟩
    refine then_normal ?_
    refine wp_cond_split (hA374.get rfl) (fun hc => ?_) (fun hc => ?_)
    · have ht375 := ht365.1 (b_not_t hc)
      clear hc
      refine wp_exit ?_
      refine then_exit ?_
      refine block_miss rfl ?_
      refine then_exit ?_
      refine block_hit ?_
      have hA377 := hA374.keep [] trivial
      refine sco_normal ?_
      refine res_end ?_
      exact res_all (vs := []) rfl hA377 trivial ht375
    · have ht376 := ht365.2 (b_not_f hc)
      clear hc
      refine wp_skip ?_
      refine then_normal ?_
      refine wp_seq ?_
      refine wp_seq ?_
      refine wp_region_lit ?_
      refine sq (opk_val hA374 rfl (r_fieldAddr (hA374.get rfl) Try.underlying114 rfl ti_112 (by decide)) fun a378 hA378 _ => ?_)
      refine sq (opk_val hA378 rfl (r_load1 Try.underlying112 rfl (hA378.get rfl) (hB372.cell 0 _ rfl)) fun a379 hA379 _ => ?_)
      obtain ⟨p_381, hp382, ht383⟩ := ht376
      refine sq (opk_val hA379 rfl (r_nilCheckP (((hA379.get rfl)).trans (congrArg Value.pointer hp382))) fun a380 hA380 _ => ?_)
      refine sq (opk_val hA380 rfl (r_fieldAddr (hA380.get rfl) Try.underlying26 rfl ti_24 (by decide)) fun a384 hA384 _ => ?_)
      obtain ⟨x_386, hx387, ht388⟩ := ht383
      refine sq (opk_val hA384 rfl (r_load1 Try.underlying24 rfl (hA384.get rfl) hx387) fun a385 hA385 _ => ?_)
      refine sq (opk_val hA385 rfl (r_len (hA385.get rfl) Try.underlying24) fun a389 hA389 _ => ?_)
      obtain ⟨hS391, ht392⟩ := ht388
      refine sq (opk_val hA389 rfl (r_subI (hA389.get rfl) rfl hS391) fun a390 hA390 _ => ?_)
      refine sq (opk_val hA390 rfl (r_assign (hA390.get rfl)) fun a393 hA393 _ => ?_)
      refine sq_end ?_
      have hA394 := hA393.keep [(1, look_2), (4, Sl.v (Sl.cut stack_17 4 0 ((stack_17.n : Int) - 1).toNat stack_17.c)), (5, .int .i64 id_18), (6, .pointer (some (⟨B_326, 0, none⟩ : Addr))), (7, .int .i64 ((x_386.n : Int) - 1))] ⟨rfl, rfl, rfl, rfl, rfl, trivial⟩
      refine then_normal ?_
      refine wp_block ?_
      obtain ⟨J_398, mu_399, h0487, ht486⟩ := ht392
      refine wp_loop_st (σ := Sl × Int × World) (fun s a w => Ag 59 a [(1, look_2), (4, Sl.v s.1), (5, .int .i64 id_18), (6, .pointer (some (⟨B_326, 0, none⟩ : Addr))), (7, .int .i64 s.2.1)] ∧ Box w B_326 114 [.pointer x_323_t, .int .i64 x_323_parent, .int .i64 x_323_depth, .int .i64 x_323_place] ∧ w = s.2.2 ∧ J_398 s.1 s.2.1 s.2.2) (fun s => mu_399 s.1 s.2.1 s.2.2) (Sl.cut stack_17 4 0 ((stack_17.n : Int) - 1).toNat stack_17.c, (x_386.n : Int) - 1, w364) ⟨hA394.keep [(1, look_2), (4, Sl.v (Sl.cut stack_17 4 0 ((stack_17.n : Int) - 1).toNat stack_17.c)), (5, .int .i64 id_18), (6, .pointer (some (⟨B_326, 0, none⟩ : Addr))), (7, .int .i64 ((x_386.n : Int) - 1))] ⟨rfl, rfl, rfl, rfl, rfl, trivial⟩, hB372, rfl, h0487⟩ ?_
      rintro ⟨stack_395, i_396, w397⟩ a484 w_ ⟨hA484, hB485, hw_, hJ489⟩
      have hw_ : w397 = w_ := hw_.symm
      subst hw_
      have ht488 := ht486 stack_395 i_396 _ hJ489
      refine wp_seq ?_
      refine wp_seq ?_
      refine wp_region_lit ?_
      refine sq (opk_val hA484 rfl (r_move (hA484.get rfl)) fun a490 hA490 _ => ?_)
      refine sq (opk_val hA490 rfl (r_geq (hA490.get rfl) rfl) fun a491 hA491 _ => ?_)
      refine sq_end ?_
      have hA492 := hA491.keep [(1, look_2), (4, Sl.v stack_395), (5, .int .i64 id_18), (6, .pointer (some (⟨B_326, 0, none⟩ : Addr))), (7, .int .i64 i_396), (38, .bool (decide (0 ≤ i_396)))] ⟨rfl, rfl, rfl, rfl, rfl, rfl, trivial⟩
      refine then_normal ?_
      refine wp_cond_split (hA492.get rfl) (fun hc => ?_) (fun hc => ?_)
      · have ht493 := ht488.1 (of_decide_eq_true hc)
        clear hc
        refine wp_skip ?_
        refine then_normal ?_
        refine wp_seq ?_
        refine wp_block ?_
        refine draw' (by kernel_rfl) fun w495 hE496 => ?_
        have hB497 := hB485.ext hE496
        have hC498 : Chg [] w397 w495 := hE496
        have ht499 := ht493 w495    hC498
        obtain ⟨p_502, hp503, ht504⟩ := ht499
        obtain ⟨x_507, hx508, ht509⟩ := ht504
        obtain ⟨p_512, hp513, ht514⟩ := ht509
        obtain ⟨hS517, ht518⟩ := ht514
        refine par (D := [[], [], [1], [1, 2], [1, 2, 3], [1, 2, 3, 4], [], [1, 2, 3, 4, 5, 6], [], [], [9], [9, 10], [], [1, 2, 3, 4, 5, 6, 7, 8, 9, 10, 11, 12], [1, 2, 3, 4, 5, 6, 7, 8, 9, 10, 11, 12, 13], [0, 1, 2, 3, 4, 5, 6, 7, 8, 9, 10, 11, 12, 13, 14], [0, 1, 2, 3, 4, 5, 6, 7, 8, 9, 10, 11, 12, 13, 14, 15]]) (S := [0, 1, 2, 3, 4, 5, 6, 7, 8, 9, 10, 11, 12, 13, 14]) (F := []) (V := VL [(0, fun v _ => v = Sl.v stack_395), (1, fun v _ => v = .pointer (some (⟨B_326, 0, none⟩ : Addr))), (2, fun v _ => v = .pointer x_323_t), (3, fun v _ => v = .pointer (some p_502)), (4, fun v _ => v = .pointer (some (p_502.add 4))), (5, fun v _ => v = Sl.v x_507), (6, fun v _ => v = .int .i64 i_396), (7, fun v _ => v = .pointer (some (p_512.add (i_396.toNat * 5)))), (8, fun v _ => v = .int .i64 id_18), (9, fun v _ => v = .pointer (some (⟨B_326, 2, none⟩ : Addr))), (10, fun v _ => v = .int .i64 x_323_depth), (11, fun v _ => v = .int .i64 (x_323_depth + 1)), (12, fun v _ => v = .int .i64 i_396), (13, fun v _ => v = .agg #[.pointer (some (p_512.add (i_396.toNat * 5))), .int .i64 id_18, .int .i64 (x_323_depth + 1), .int .i64 i_396]), (14, fun v w' => ∃ B_524 : Nat, w495.heap.size ≤ B_524 ∧ Box w' B_524 114 [.pointer (some (p_512.add (i_396.toNat * 5))), .int .i64 id_18, .int .i64 (x_323_depth + 1), .int .i64 i_396] ∧ v = Sl.v (Sl.mk (some ⟨B_524, 0, none⟩) 1 1))]) hA492 (by kernel_rfl) ⟨fun _ _ _ _ h => by first | exact h | (change _ = _ at h; change _ = _; exact h), fun _ _ _ _ h => by first | exact h | (change _ = _ at h; change _ = _; exact h), fun _ _ _ _ h => by first | exact h | (change _ = _ at h; change _ = _; exact h), fun _ _ _ _ h => by first | exact h | (change _ = _ at h; change _ = _; exact h), fun _ _ _ _ h => by first | exact h | (change _ = _ at h; change _ = _; exact h), fun _ _ _ _ h => by first | exact h | (change _ = _ at h; change _ = _; exact h), fun _ _ _ _ h => by first | exact h | (change _ = _ at h; change _ = _; exact h), fun _ _ _ _ h => by first | exact h | (change _ = _ at h; change _ = _; exact h), fun _ _ _ _ h => by first | exact h | (change _ = _ at h; change _ = _; exact h), fun _ _ _ _ h => by first | exact h | (change _ = _ at h; change _ = _; exact h), fun _ _ _ _ h => by first | exact h | (change _ = _ at h; change _ = _; exact h), fun _ _ _ _ h => by first | exact h | (change _ = _ at h; change _ = _; exact h), fun _ _ _ _ h => by first | exact h | (change _ = _ at h; change _ = _; exact h), fun _ _ _ _ h => by first | exact h | (change _ = _ at h; change _ = _; exact h), fun _ _ _ hE ⟨B_524, h0_, h1_, e⟩ => ⟨B_524, h0_, (h1_.ext hE), e⟩, trivial⟩ ⟨?_, ?_, ?_, ?_, ?_, ?_, ?_, ?_, ?_, ?_, ?_, ?_, ?_, ?_, ?_, trivial⟩ ?_
        · intro a w hT
          have hAp := hT.ag hA492 [(4, Sl.v stack_395)] ⟨rfl, trivial⟩ (by kernel_rfl)
          exact opk_val hAp rfl (r_move (hAp.get rfl)) fun _ _ e => ⟨_, e, Chg.refl _ _, fun _ => Eq.refl _⟩
        · intro a w hT
          have hAp := hT.ag hA492 [(6, .pointer (some (⟨B_326, 0, none⟩ : Addr)))] ⟨rfl, trivial⟩ (by kernel_rfl)
          exact opk_val hAp rfl (r_fieldAddr (hAp.get rfl) Try.underlying114 rfl ti_112 (by decide)) fun _ _ e => ⟨_, e, Chg.refl _ _, fun _ => Eq.refl _⟩
        · intro a w hT
          have hAp := hT.ag hA492 [] trivial (by kernel_rfl)
          have e500 : a.tmps.getD 42 undef = .pointer (some (⟨B_326, 0, none⟩ : Addr)) := hT.vals 1 rfl 42 rfl
          have hAp := hAp.add e500
          exact opk_val hAp rfl (r_load1 Try.underlying112 rfl (hAp.get rfl) ((hB497.ext hT.chg).cell 0 _ rfl)) fun _ _ e => ⟨_, e, Chg.refl _ _, fun _ => Eq.refl _⟩
        · intro a w hT
          have hAp := hT.ag hA492 [] trivial (by kernel_rfl)
          have e501 : a.tmps.getD 43 undef = .pointer x_323_t := hT.vals 2 rfl 43 rfl
          have hAp := hAp.add e501
          exact opk_val hAp rfl (r_nilCheckP (((hAp.get rfl)).trans (congrArg Value.pointer hp503))) fun _ _ e => ⟨_, e, Chg.refl _ _, fun _ => Eq.refl _⟩
        · intro a w hT
          have hAp := hT.ag hA492 [] trivial (by kernel_rfl)
          have e505 : a.tmps.getD 44 undef = .pointer (some p_502) := hT.vals 3 rfl 44 rfl
          have hAp := hAp.add e505
          exact opk_val hAp rfl (r_fieldAddr (hAp.get rfl) Try.underlying26 rfl ti_24 (by decide)) fun _ _ e => ⟨_, e, Chg.refl _ _, fun _ => Eq.refl _⟩
        · intro a w hT
          have hAp := hT.ag hA492 [] trivial (by kernel_rfl)
          have e506 : a.tmps.getD 45 undef = .pointer (some (p_502.add 4)) := hT.vals 4 rfl 45 rfl
          have hAp := hAp.add e506
          exact opk_val hAp rfl (r_load1 Try.underlying24 rfl (hAp.get rfl) (Ext.cell hT.chg hx508)) fun _ _ e => ⟨_, e, Chg.refl _ _, fun _ => Eq.refl _⟩
        · intro a w hT
          have hAp := hT.ag hA492 [(7, .int .i64 i_396)] ⟨rfl, trivial⟩ (by kernel_rfl)
          exact opk_val hAp rfl (r_move (hAp.get rfl)) fun _ _ e => ⟨_, e, Chg.refl _ _, fun _ => Eq.refl _⟩
        · intro a w hT
          have hAp := hT.ag hA492 [] trivial (by kernel_rfl)
          have e510 : a.tmps.getD 46 undef = Sl.v x_507 := hT.vals 5 rfl 46 rfl
          have hAp := hAp.add e510
          have e511 : a.tmps.getD 47 undef = .int .i64 i_396 := hT.vals 6 rfl 47 rfl
          have hAp := hAp.add e511
          exact opk_val hAp rfl (r_indexAddr (hAp.get rfl) (hAp.get rfl) Try.underlying24 ti_26 hp513.1 hp513.2) fun _ _ e => ⟨_, e, Chg.refl _ _, fun _ => Eq.refl _⟩
        · intro a w hT
          have hAp := hT.ag hA492 [(5, .int .i64 id_18)] ⟨rfl, trivial⟩ (by kernel_rfl)
          exact opk_val hAp rfl (r_move (hAp.get rfl)) fun _ _ e => ⟨_, e, Chg.refl _ _, fun _ => Eq.refl _⟩
        · intro a w hT
          have hAp := hT.ag hA492 [(6, .pointer (some (⟨B_326, 0, none⟩ : Addr)))] ⟨rfl, trivial⟩ (by kernel_rfl)
          exact opk_val hAp rfl (r_fieldAddr (hAp.get rfl) Try.underlying114 rfl ti_3 (by decide)) fun _ _ e => ⟨_, e, Chg.refl _ _, fun _ => Eq.refl _⟩
        · intro a w hT
          have hAp := hT.ag hA492 [] trivial (by kernel_rfl)
          have e515 : a.tmps.getD 50 undef = .pointer (some (⟨B_326, 2, none⟩ : Addr)) := hT.vals 9 rfl 50 rfl
          have hAp := hAp.add e515
          exact opk_val hAp rfl (r_load1 Try.underlying3 rfl (hAp.get rfl) ((hB497.ext hT.chg).cell 2 _ rfl)) fun _ _ e => ⟨_, e, Chg.refl _ _, fun _ => Eq.refl _⟩
        · intro a w hT
          have hAp := hT.ag hA492 [] trivial (by kernel_rfl)
          have e516 : a.tmps.getD 51 undef = .int .i64 x_323_depth := hT.vals 10 rfl 51 rfl
          have hAp := hAp.add e516
          exact opk_val hAp rfl (r_addI (hAp.get rfl) rfl hS517) fun _ _ e => ⟨_, e, Chg.refl _ _, fun _ => Eq.refl _⟩
        · intro a w hT
          have hAp := hT.ag hA492 [(7, .int .i64 i_396)] ⟨rfl, trivial⟩ (by kernel_rfl)
          exact opk_val hAp rfl (r_move (hAp.get rfl)) fun _ _ e => ⟨_, e, Chg.refl _ _, fun _ => Eq.refl _⟩
        · intro a w hT
          have hAp := hT.ag hA492 [] trivial (by kernel_rfl)
          have e519 : a.tmps.getD 48 undef = .pointer (some (p_512.add (i_396.toNat * 5))) := hT.vals 7 rfl 48 rfl
          have hAp := hAp.add e519
          have e520 : a.tmps.getD 49 undef = .int .i64 id_18 := hT.vals 8 rfl 49 rfl
          have hAp := hAp.add e520
          have e521 : a.tmps.getD 52 undef = .int .i64 (x_323_depth + 1) := hT.vals 11 rfl 52 rfl
          have hAp := hAp.add e521
          have e522 : a.tmps.getD 53 undef = .int .i64 i_396 := hT.vals 12 rfl 53 rfl
          have hAp := hAp.add e522
          exact opk_val hAp rfl (r_build (vs := #[(0, .pointer (some (p_512.add (i_396.toNat * 5)))), (1, .int .i64 id_18), (2, .int .i64 (x_323_depth + 1)), (3, .int .i64 i_396)]) (cells := #[.pointer (some (p_512.add (i_396.toNat * 5))), .int .i64 id_18, .int .i64 (x_323_depth + 1), .int .i64 i_396]) (map_arr2 (ml2_cons (hAp.get rfl) (ml2_cons (hAp.get rfl) (ml2_cons (hAp.get rfl) (ml2_cons (hAp.get rfl) (ml2_nil)))))) ti_114 Try.underlying114 pl_114 (by kernel_rfl)) fun _ _ e => ⟨_, e, Chg.refl _ _, fun _ => Eq.refl _⟩
        · intro a w hT
          have hAp := hT.ag hA492 [] trivial (by kernel_rfl)
          have e523 : a.tmps.getD 54 undef = .agg #[.pointer (some (p_512.add (i_396.toNat * 5))), .int .i64 id_18, .int .i64 (x_323_depth + 1), .int .i64 i_396] := hT.vals 13 rfl 54 rfl
          have hAp := hAp.add e523
          exact opk_new (fun B => .slice (some ⟨B, 0, none⟩) 1 1) hAp rfl (r_buildSlice (vs := #[(0, .agg #[.pointer (some (p_512.add (i_396.toNat * 5))), .int .i64 id_18, .int .i64 (x_323_depth + 1), .int .i64 i_396])]) (cs := [.pointer (some (p_512.add (i_396.toNat * 5))), .int .i64 id_18, .int .i64 (x_323_depth + 1), .int .i64 i_396]) (map_arr2 (ml2_cons (hAp.get rfl) (ml2_nil))) Try.underlying133 ti_114 rfl rfl (by kernel_rfl)) fun _ w525 B_524 hE526 hN527 hB528 _ e => ⟨_, e, hE526, fun _ => ⟨B_524, Nat.le_trans hT.chg.size hN527.ge, hB528, rfl⟩⟩
        · intro a529 w530 hE531 hag532 hv533
          have hA529 := hag532 [(1, look_2), (4, Sl.v stack_395), (5, .int .i64 id_18), (6, .pointer (some (⟨B_326, 0, none⟩ : Addr))), (7, .int .i64 i_396)] ⟨rfl, rfl, rfl, rfl, rfl, trivial⟩ (by kernel_rfl)
          have e535 : a529.tmps.getD 41 undef = Sl.v stack_395 := hv533 0 rfl 41 rfl
          have hA536 := hA529.add e535
          obtain ⟨B_524, hf539, hf540, e537⟩ := hv533 14 rfl 55 rfl
          have hA538 := hA536.add e537
          have hB541 := hB497.ext hE531
          have hC542 : Chg [] w495 w530 := hE531
          have ht543 := ht518 w530 B_524 hE531 hf539 hf540
          have hne544 : B_326 ≠ B_524 := Nat.ne_of_lt (Nat.lt_of_lt_of_le hB497.lt hf539)
          have ht545 := ht543 hf540
          refine one (D := [[], [], [1], [1, 2], [1, 2, 3], [1, 2, 3, 4], [], [1, 2, 3, 4, 5, 6], [], [], [9], [9, 10], [], [1, 2, 3, 4, 5, 6, 7, 8, 9, 10, 11, 12], [1, 2, 3, 4, 5, 6, 7, 8, 9, 10, 11, 12, 13], [0, 1, 2, 3, 4, 5, 6, 7, 8, 9, 10, 11, 12, 13, 14], [0, 1, 2, 3, 4, 5, 6, 7, 8, 9, 10, 11, 12, 13, 14, 15]]) (i := 15) rfl (by kernel_rfl) (opk_run hA538 rfl (fun _ _ hr => r_append (hA538.get rfl) (hA538.get rfl) hr) ht545 fun a546 v552 w547 hA546 _ hn549 hz550 hK551 => ?_)
          obtain ⟨r_553, rfl, ht548⟩ := hK551
          have hB554 := hB541.kept hn549 (.head _)
          refine par (D := [[], [], [1], [1, 2], [1, 2, 3], [1, 2, 3, 4], [], [1, 2, 3, 4, 5, 6], [], [], [9], [9, 10], [], [1, 2, 3, 4, 5, 6, 7, 8, 9, 10, 11, 12], [1, 2, 3, 4, 5, 6, 7, 8, 9, 10, 11, 12, 13], [0, 1, 2, 3, 4, 5, 6, 7, 8, 9, 10, 11, 12, 13, 14], [0, 1, 2, 3, 4, 5, 6, 7, 8, 9, 10, 11, 12, 13, 14, 15]]) (S := [16]) (F := []) (V := VL [(16, fun v _ => v = Sl.v r_553)]) hA546 (by kernel_rfl) ⟨fun _ _ _ _ h => by first | exact h | (change _ = _ at h; change _ = _; exact h), trivial⟩ ⟨?_, trivial⟩ ?_
          · intro a w hT
            have hAp := hT.ag hA546 [(56, Sl.v r_553)] ⟨rfl, trivial⟩ (by kernel_rfl)
            exact opk_val hAp rfl (r_assign (hAp.get rfl)) fun _ _ e => ⟨_, e, Chg.refl _ _, fun _ => Eq.refl _⟩
          · intro a555 w556 hE557 hag558 hv559
            have hA555 := hag558 [(1, look_2), (5, .int .i64 id_18), (6, .pointer (some (⟨B_326, 0, none⟩ : Addr))), (7, .int .i64 i_396)] ⟨rfl, rfl, rfl, rfl, trivial⟩ (by kernel_rfl)
            have e561 : a555.tmps.getD 4 undef = Sl.v r_553 := hv559 16 rfl 4 rfl
            have hA562 := hA555.add e561
            have hB563 := hB554.ext hE557
            have hC564 : Chg [] w547 w556 := hE557
            refine PR_end (by kernel_rfl) ?_
            have hA565 := hA562.keep [(1, look_2), (4, Sl.v r_553), (5, .int .i64 id_18), (6, .pointer (some (⟨B_326, 0, none⟩ : Addr))), (7, .int .i64 i_396)] ⟨rfl, rfl, rfl, rfl, rfl, trivial⟩
            refine block_normal ?_
            refine then_normal ?_
            refine wp_region_lit ?_
            refine sq (opk_val hA565 rfl (r_move (hA565.get rfl)) fun a566 hA566 _ => ?_)
            obtain ⟨hS568, ht569⟩ := ht548
            refine sq (opk_val hA566 rfl (r_subI (hA566.get rfl) rfl hS568) fun a567 hA567 _ => ?_)
            refine sq (opk_val hA567 rfl (r_assign (hA567.get rfl)) fun a570 hA570 _ => ?_)
            refine sq_end ?_
            have hA571 := hA570.keep [(1, look_2), (4, Sl.v r_553), (5, .int .i64 id_18), (6, .pointer (some (⟨B_326, 0, none⟩ : Addr))), (7, .int .i64 (i_396 - 1))] ⟨rfl, rfl, rfl, rfl, rfl, trivial⟩
            have ht572 := ht569 w556    hC564
            have hA573 := hA571.keep [(1, look_2), (4, Sl.v r_553), (5, .int .i64 id_18), (6, .pointer (some (⟨B_326, 0, none⟩ : Addr))), (7, .int .i64 (i_396 - 1))] ⟨rfl, rfl, rfl, rfl, rfl, trivial⟩
            exact then_normal ⟨(r_553, i_396 - 1, w556), ⟨hA573, hB563, rfl, ht572.1⟩, ht572.2⟩
      · have ht494 := ht488.2 (of_decide_eq_false hc)
        clear hc
        refine wp_exit ?_
        refine then_exit ?_
        refine then_exit ?_
        refine block_hit ?_
        have hA574 := hA492.keep [(1, look_2), (4, Sl.v stack_395), (5, .int .i64 id_18)] ⟨rfl, rfl, rfl, trivial⟩
        refine then_normal ?_
        refine wp_region_lit ?_
        refine sq (opk_val hA574 rfl (r_move (hA574.get rfl)) fun a575 hA575 _ => ?_)
        obtain ⟨hS577, ht578⟩ := ht494
        refine sq (opk_val hA575 rfl (r_addI (hA575.get rfl) rfl hS577) fun a576 hA576 _ => ?_)
        refine sq (opk_val hA576 rfl (r_assign (hA576.get rfl)) fun a579 hA579 _ => ?_)
        refine sq_end ?_
        have hA580 := hA579.keep [(1, look_2), (4, Sl.v stack_395), (5, .int .i64 (id_18 + 1))] ⟨rfl, rfl, rfl, trivial⟩
        refine block_normal ?_
        have hA581 := hA580.keep [(1, look_2), (4, Sl.v stack_395), (5, .int .i64 (id_18 + 1))] ⟨rfl, rfl, rfl, trivial⟩
        exact then_normal ⟨(stack_395, id_18 + 1, w397), ⟨hA581, rfl, ht578.1⟩, ht578.2⟩
  · have ht310 := ht303.2 (of_decide_eq_false hc)
    clear hc
    refine wp_exit ?_
    refine then_exit ?_
    refine then_exit ?_
    refine block_hit ?_
    have hA582 := hA308.keep [] trivial
    refine sco_normal ?_
    refine res_end ?_
    exact res_all (vs := []) rfl hA582 trivial ht310

/-- The condition of topiary/walk.Flat.1. -/
def walk_Flat_1.vc (__1 : Int) (s_2_t : Option Addr) (s_2_parent : Int) (s_2_depth : Int) (s_2_place : Int) (x_3 : Addr) (R : Value → World → Prop) (w : World) : Prop :=
∃ p_17 : Addr, (s_2_t = some p_17) ∧
∀ (w5 : World) (B_4 : Nat), New w B_4 w5 → Chg [] w w5 →
∃ (x_22_Kind : Int) (x_22_Name : Str) (x_22_Text : Str) (x_22_Attrs : Sl) (x_22_Kids : Sl), (Cells w5 p_17 [.int .i64 x_22_Kind, .string (Bs x_22_Name), .string (Bs x_22_Text), Sl.v x_22_Attrs, Sl.v x_22_Kids]) ∧
∀ (w45 : World) (B_25 : Nat), New w5 B_25 w45 → Chg [] w5 w45 →
CallK Try.prog 64 #[Sl.v x_22_Attrs] w45 [B_4, B_25] (fun v w59 => ∃ (r_57 : Sl), v = Sl.v r_57 ∧
∀ (w68 : World), Chg [B_25] w59 w68 →
∃ (x_78 : Sl), (w68.cell? x_3 = some (Sl.v x_78)) ∧
∀ (w90 : World) (B_89 : Nat), New w68 B_89 w90 → Chg [] w68 w90 →
∀ (_ : Box w90 B_89 86 [.int .i64 s_2_parent, .int .i64 1, .int .i64 s_2_depth, .int .i64 1, .int .i64 s_2_place, .int .i64 x_22_Kind, .string (Bs x_22_Name), .string (Bs x_22_Text), Sl.v r_57, Sl.v Sl.nil]),
RunK Try.prog (Builtin.append_ #[79, 79] 79 #[Sl.v x_78, Sl.v (Sl.mk (some ⟨B_89, 0, none⟩) 1 1)]) w90 [B_4, B_25] (fun v w104 => ∃ (r_110 : Sl), v = Sl.v r_110 ∧
∃ (B_117 o_118 : Nat) (T_119 : TypeId) (cs_120 : List Value), x_3 = ⟨B_117, o_118, none⟩ ∧ Box w104 B_117 T_119 cs_120 ∧ o_118 + 1 ≤ cs_120.length ∧ (∀ b ∈ [B_4, B_25], b ≠ B_117) ∧
(∀ w113 : World, Chg [B_117] w104 w113 → Box w113 B_117 T_119 (putAt cs_120 o_118 [Sl.v r_110]) →
R (.bool true) w113)))
set_option maxHeartbeats 1000000 in
set_option maxRecDepth 10000 in
theorem walk_Flat_1.ok (__1 : Int) (s_2_t : Option Addr) (s_2_parent : Int) (s_2_depth : Int) (s_2_place : Int) (x_3 : Addr) {R : Value → World → Prop} {w : World} (ht0 : walk_Flat_1.vc __1 s_2_t s_2_parent s_2_depth s_2_place x_3 R w) : Calls Try.prog 63 #[.int .i64 __1, .agg #[.pointer s_2_t, .int .i64 s_2_parent, .int .i64 s_2_depth, .int .i64 s_2_place], .pointer (some x_3)] w (Ret R) := by
  refine enter [.int .i64 __1, .agg #[.pointer s_2_t, .int .i64 s_2_parent, .int .i64 s_2_depth, .int .i64 s_2_place], .pointer (some x_3)] Try.func63 rfl Try.ntmps63 rfl ?_
  intro a0 hA0
  unfold walk_Flat_1.vc at ht0
  refine wp_seq ?_
  refine wp_region_lit ?_
  refine sq (opk_new (fun B => .pointer (some ⟨B, 0, none⟩)) hA0 rfl (r_box (cs := [.pointer s_2_t, .int .i64 s_2_parent, .int .i64 s_2_depth, .int .i64 s_2_place]) (hA0.get rfl) rfl) fun a6 w5 B_4 hE7 hN8 hB9 hA6 _ => ?_)
  have hN10 : New w B_4 w5 := hN8
  have hC11 : Chg [] w w5 := hE7
  refine sq (opk_val hA6 rfl (r_assign rfl) fun a12 hA12 _ => ?_)
  refine sq_end ?_
  have hA13 := hA12.keep [(2, .pointer (some x_3)), (4, .pointer (some (⟨B_4, 0, none⟩ : Addr)))] ⟨rfl, rfl, trivial⟩
  refine then_normal ?_
  refine wp_seq ?_
  refine wp_region_lit ?_
  refine sq (opk_val hA13 rfl (r_fieldAddr (hA13.get rfl) Try.underlying114 rfl ti_112 (by decide)) fun a14 hA14 _ => ?_)
  refine sq (opk_val hA14 rfl (r_load1 Try.underlying112 rfl (hA14.get rfl) (hB9.cell 0 _ rfl)) fun a15 hA15 _ => ?_)
  obtain ⟨p_17, hp18, ht19⟩ := ht0
  refine sq (opk_val hA15 rfl (r_nilCheckP (((hA15.get rfl)).trans (congrArg Value.pointer hp18))) fun a16 hA16 _ => ?_)
  have ht21 := ht19 w5 B_4 hN10  hC11
  obtain ⟨x_22_Kind, x_22_Name, x_22_Text, x_22_Attrs, x_22_Kids, hx23, ht24⟩ := ht21
  refine sq (opk_val hA16 rfl (r_loadN Try.underlying26 rfl ti_26 (hA16.get rfl) hx23) fun a20 hA20 _ => ?_)
  refine sq (opk_new (fun B => .pointer (some ⟨B, 0, none⟩)) hA20 rfl (r_alloc (cs := [.int .i64 0, .string (Bs ([] : Str)), .string (Bs ([] : Str)), Sl.v Sl.nil, Sl.v Sl.nil]) ti_26 rfl) fun a27 w26 B_25 hE28 hN29 hB30 hA27 _ => ?_)
  have hne31 : B_4 ≠ B_25 := Nat.ne_of_lt (Nat.lt_of_lt_of_le hB9.lt hN29.ge)
  have hN32 : New w5 B_25 w26 := hN29
  have hB33 := hB9.ext hE28
  have hC34 : Chg [] w5 w26 := hE28
  refine sq (opk_store hA27 hB30 (r_store (vs := [.int .i64 x_22_Kind, .string (Bs x_22_Name), .string (Bs x_22_Text), Sl.v x_22_Attrs, Sl.v x_22_Kids]) (hA27.get rfl) (hA27.get rfl) rfl ti_26 hB30 rfl (ones_all [.int .i64 x_22_Kind, .string (Bs x_22_Name), .string (Bs x_22_Text), Sl.v x_22_Attrs, Sl.v x_22_Kids] rfl)) fun a36 w35 hS37 hB38 hA36 => ?_)
  have hB39 : Box w35 B_25 26 [.int .i64 x_22_Kind, .string (Bs x_22_Name), .string (Bs x_22_Text), Sl.v x_22_Attrs, Sl.v x_22_Kids] := hB38
  have hB40 := hB33.keep hS37 (by simpa using hne31)
  have hC41 := hC34.storeNew hN32 hS37
  have hN42 := hN32.up hS37.size
  refine sq_end ?_
  have hA43 := hA36.keep [(2, .pointer (some x_3)), (4, .pointer (some (⟨B_4, 0, none⟩ : Addr))), (6, .pointer (some (⟨B_25, 0, none⟩ : Addr)))] ⟨rfl, rfl, rfl, trivial⟩
  refine then_normal ?_
  refine wp_seq ?_
  refine wp_region_lit ?_
  refine sq (opk_val hA43 rfl (r_fieldAddr (hA43.get rfl) Try.underlying26 rfl ti_24 (by decide)) fun a44 hA44 _ => ?_)
  refine sq (opk_store hA44 hB39 (r_store (vs := [Sl.v Sl.nil]) (hA44.get rfl) rfl rfl ti_24 hB39 rfl (ones_all [Sl.v Sl.nil] rfl)) fun a46 w45 hS47 hB48 hA46 => ?_)
  have hB49 : Box w45 B_25 26 [.int .i64 x_22_Kind, .string (Bs x_22_Name), .string (Bs x_22_Text), Sl.v x_22_Attrs, Sl.v Sl.nil] := hB48
  have hB50 := hB40.keep hS47 (by simpa using hne31)
  have hC51 := hC41.storeNew hN42 hS47
  have hN52 := hN42.up hS47.size
  refine sq_end ?_
  have hA53 := hA46.keep [(2, .pointer (some x_3)), (4, .pointer (some (⟨B_4, 0, none⟩ : Addr))), (6, .pointer (some (⟨B_25, 0, none⟩ : Addr)))] ⟨rfl, rfl, rfl, trivial⟩
  refine then_normal ?_
  refine wp_seq ?_
  refine wp_region_lit ?_
  refine sq (opk_val hA53 rfl (r_fieldAddr (hA53.get rfl) Try.underlying26 rfl ti_23 (by decide)) fun a54 hA54 _ => ?_)
  refine sq (opk_val hA54 rfl (r_load1 Try.underlying23 rfl (hA54.get rfl) (hB49.cell 3 _ rfl)) fun a55 hA55 _ => ?_)
  have ht56 := ht24 w45 B_25 hN52  hC51
  refine sq (opk_call hA55 rfl (r_call (args := #[Sl.v x_22_Attrs]) Try.func64 (by decide) rfl (map_arr (ml_cons (hA55.get rfl) ml_nil)) rfl) ht56 fun a58 v64 w59 hA58 _ hn61 hz62 hK63 => ?_)
  obtain ⟨r_57, rfl, ht60⟩ := hK63
  have hB65 := hB50.kept hn61 (.head _)
  have hB66 := hB49.kept hn61 (.tail _ (.head _))
  refine sq (opk_val hA58 rfl (r_fieldAddr (hA58.get rfl) Try.underlying26 rfl ti_23 (by decide)) fun a67 hA67 _ => ?_)
  refine sq (opk_store hA67 hB66 (r_store (vs := [Sl.v r_57]) (hA67.get rfl) (hA67.get rfl) rfl ti_23 hB66 rfl (ones_all [Sl.v r_57] rfl)) fun a69 w68 hS70 hB71 hA69 => ?_)
  have hB72 : Box w68 B_25 26 [.int .i64 x_22_Kind, .string (Bs x_22_Name), .string (Bs x_22_Text), Sl.v r_57, Sl.v Sl.nil] := hB71
  have hB73 := hB65.keep hS70 (by simpa using hne31)
  have hC74 : Chg [B_25] w59 w68 := hS70
  refine sq_end ?_
  have hA75 := hA69.keep [(2, .pointer (some x_3)), (4, .pointer (some (⟨B_4, 0, none⟩ : Addr))), (6, .pointer (some (⟨B_25, 0, none⟩ : Addr)))] ⟨rfl, rfl, rfl, trivial⟩
  refine then_normal ?_
  refine wp_seq ?_
  refine wp_region_lit ?_
  have ht77 := ht60 w68    hC74
  obtain ⟨x_78, hx79, ht80⟩ := ht77
  refine sq (opk_val hA75 rfl (r_load1 Try.underlying79 rfl (hA75.get rfl) hx79) fun a76 hA76 _ => ?_)
  refine sq (opk_val hA76 rfl (r_fieldAddr (hA76.get rfl) Try.underlying114 rfl ti_3 (by decide)) fun a81 hA81 _ => ?_)
  refine sq (opk_val hA81 rfl (r_load1 Try.underlying3 rfl (hA81.get rfl) (hB73.cell 1 _ rfl)) fun a82 hA82 _ => ?_)
  refine sq (opk_val hA82 rfl (r_fieldAddr (hA82.get rfl) Try.underlying114 rfl ti_3 (by decide)) fun a83 hA83 _ => ?_)
  refine sq (opk_val hA83 rfl (r_load1 Try.underlying3 rfl (hA83.get rfl) (hB73.cell 2 _ rfl)) fun a84 hA84 _ => ?_)
  refine sq (opk_val hA84 rfl (r_fieldAddr (hA84.get rfl) Try.underlying114 rfl ti_3 (by decide)) fun a85 hA85 _ => ?_)
  refine sq (opk_val hA85 rfl (r_load1 Try.underlying3 rfl (hA85.get rfl) (hB73.cell 3 _ rfl)) fun a86 hA86 _ => ?_)
  refine sq (opk_val hA86 rfl (r_loadN (cs := [.int .i64 x_22_Kind, .string (Bs x_22_Name), .string (Bs x_22_Text), Sl.v r_57, Sl.v Sl.nil]) Try.underlying26 rfl ti_26 (hA86.get rfl) (hB72.part 0 _ rfl)) fun a87 hA87 _ => ?_)
  refine sq (opk_val hA87 rfl (r_build (vs := #[(0, .int .i64 s_2_parent), (1, .int .i64 1), (2, .int .i64 s_2_depth), (3, .int .i64 1), (4, .int .i64 s_2_place), (5, .agg #[.int .i64 x_22_Kind, .string (Bs x_22_Name), .string (Bs x_22_Text), Sl.v r_57, Sl.v Sl.nil])]) (cells := #[.int .i64 s_2_parent, .int .i64 1, .int .i64 s_2_depth, .int .i64 1, .int .i64 s_2_place, .int .i64 x_22_Kind, .string (Bs x_22_Name), .string (Bs x_22_Text), Sl.v r_57, Sl.v Sl.nil]) (map_arr2 (ml2_cons (hA87.get rfl) (ml2_cons rfl (ml2_cons (hA87.get rfl) (ml2_cons rfl (ml2_cons (hA87.get rfl) (ml2_cons (hA87.get rfl) (ml2_nil)))))))) ti_86 Try.underlying86 pl_86 (by kernel_rfl)) fun a88 hA88 _ => ?_)
  refine sq (opk_new (fun B => .slice (some ⟨B, 0, none⟩) 1 1) hA88 rfl (r_buildSlice (vs := #[(0, .agg #[.int .i64 s_2_parent, .int .i64 1, .int .i64 s_2_depth, .int .i64 1, .int .i64 s_2_place, .int .i64 x_22_Kind, .string (Bs x_22_Name), .string (Bs x_22_Text), Sl.v r_57, Sl.v Sl.nil])]) (cs := [.int .i64 s_2_parent, .int .i64 1, .int .i64 s_2_depth, .int .i64 1, .int .i64 s_2_place, .int .i64 x_22_Kind, .string (Bs x_22_Name), .string (Bs x_22_Text), Sl.v r_57, Sl.v Sl.nil]) (map_arr2 (ml2_cons (hA88.get rfl) (ml2_nil))) Try.underlying79 ti_86 rfl rfl (by kernel_rfl)) fun a91 w90 B_89 hE92 hN93 hB94 hA91 _ => ?_)
  have hne95 : B_4 ≠ B_89 := Nat.ne_of_lt (Nat.lt_of_lt_of_le hB73.lt hN93.ge)
  have hne96 : B_25 ≠ B_89 := Nat.ne_of_lt (Nat.lt_of_lt_of_le hB72.lt hN93.ge)
  have hN97 : New w68 B_89 w90 := hN93
  have hB98 := hB73.ext hE92
  have hB99 := hB72.ext hE92
  have hC100 : Chg [] w68 w90 := hE92
  have ht101 := ht80 w90 B_89 hN97  hC100
  have ht102 := ht101 hB94
  refine sq (opk_run hA91 rfl (fun _ _ hr => r_append (hA91.get rfl) (hA91.get rfl) hr) ht102 fun a103 v109 w104 hA103 _ hn106 hz107 hK108 => ?_)
  obtain ⟨r_110, rfl, ht105⟩ := hK108
  have hB111 := hB98.kept hn106 (.head _)
  have hB112 := hB99.kept hn106 (.tail _ (.head _))
  obtain ⟨B_117, o_118, T_119, cs_120, he121, hb122, hl123, hx124, ht125⟩ := ht105
  refine sq (opk_store hA103 hb122 (r_store (vs := [Sl.v r_110]) (((hA103.get rfl)).trans (congrArg (fun a => Value.pointer (some a)) he121)) (hA103.get rfl) rfl ti_79 hb122 (Nat.ble_eq_true_of_le hl123) (ones_all [Sl.v r_110] rfl)) fun a114 w113 hS115 hB116 hA114 => ?_)
  have hB126 := hB111.keep hS115 (by have := hx124 B_4 (by simp); simpa using this)
  have hB127 := hB112.keep hS115 (by have := hx124 B_25 (by simp); simpa using this)
  have ht128 := ht125 w113 hS115 hB116
  refine sq_end ?_
  have hA129 := hA114.keep [] trivial
  refine then_normal ?_
  refine wp_seq ?_
  refine wp_region_lit ?_
  refine sq (opk_val hA129 rfl (r_assign rfl) fun a130 hA130 _ => ?_)
  refine sq_end ?_
  have hA131 := hA130.keep [(5, .bool true)] ⟨rfl, trivial⟩
  refine then_normal ?_
  refine wp_ret ?_
  exact res_all (vs := [.bool true]) rfl hA131 ⟨res_of_tmp hA131 rfl, trivial⟩ ht128

end Go.Proofs.Yteohbfaechfliaa
