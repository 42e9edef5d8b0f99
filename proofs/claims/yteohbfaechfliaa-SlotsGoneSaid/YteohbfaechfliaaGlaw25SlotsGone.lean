/-
  PRINTED BY PROGRAM: for each function its condition (vc), and that this suffices (ok).
-/
import Derived.Test.YteohbfaechfliaaGT
namespace Go.Proofs.Yteohbfaechfliaa
open Go.RowKit
set_option linter.unusedVariables false

/-- The condition of topiary/topiarylaw25.SlotsGone. -/
def law25_SlotsGone.vc (l_1 : Sl) (R : Value → World → Prop) (w : World) : Prop :=
CallK Try.prog 8 #[Sl.v l_1] w [] (fun v w7 => ∃ (r_5_Kind : Int) (r_5_Name : Str) (r_5_Text : Str) (r_5_Attrs : Sl) (r_5_Kids : Sl), v = .agg #[.int .i64 r_5_Kind, .string (Bs r_5_Name), .string (Bs r_5_Text), Sl.v r_5_Attrs, Sl.v r_5_Kids] ∧
∀ (w55 : World) (B_13 : Nat) (B_30 : Nat) (B_54 : Nat), New w7 B_13 w55 → New w7 B_30 w55 → New w7 B_54 w55 → B_13 ≠ B_30 → B_13 ≠ B_54 → B_30 ≠ B_54 → Chg [] w7 w55 →
∀ (_ : Box w55 B_54 40 [.int .i64 0, .int .i64 0]),
CallK Try.prog 12 #[.agg #[.int .i64 r_5_Kind, .string (Bs r_5_Name), .string (Bs r_5_Text), Sl.v r_5_Attrs, Sl.v r_5_Kids], .agg #[.int .i64 1, .string (Bs ([] : Str)), .string (Bs ([] : Str)), Sl.v Sl.nil, Sl.v Sl.nil], Sl.v (Sl.mk (some ⟨B_54, 0, none⟩) 1 1)] w55 [B_13, B_30] (fun v w73 => ∃ (r_0_70 : Sl) (r_1_71 : Int), v = .tuple #[Sl.v r_0_70, .int .i64 r_1_71] ∧
∀ (w91 : World) (B_90 : Nat), New w73 B_90 w91 → Chg [] w73 w91 →
∀ (_ : Box w91 B_90 40 [.int .i64 0, .int .i64 0]),
CallK Try.prog 12 #[.agg #[.int .i64 1, .string (Bs ([] : Str)), .string (Bs ([] : Str)), Sl.v Sl.nil, Sl.v Sl.nil], .agg #[.int .i64 r_5_Kind, .string (Bs r_5_Name), .string (Bs r_5_Text), Sl.v r_5_Attrs, Sl.v r_5_Kids], Sl.v (Sl.mk (some ⟨B_90, 0, none⟩) 1 1)] w91 [B_13, B_30] (fun v w107 => ∃ (r_0_104 : Sl) (r_1_105 : Int), v = .tuple #[Sl.v r_0_104, .int .i64 r_1_105] ∧
∃ (r_131 : Int), ((((¬ (r_1_71 ≠ 0)) ∧ (¬ (r_1_105 ≠ 0)))) → Calls Try.prog 15 #[.agg #[.int .i64 r_5_Kind, .string (Bs r_5_Name), .string (Bs r_5_Text), Sl.v r_5_Attrs, Sl.v r_5_Kids]] w107 (Ret fun v w' => Ext w107 w' ∧ v = .int .i64 r_131)) ∧
(∀ w133 : World, Ext w107 w133 →
∃ p_150 : Addr, ((((((¬ (r_1_71 ≠ 0)) ∧ (¬ (r_1_105 ≠ 0))) ∧ (¬ ((r_0_70.n : Int) ≠ r_131))) ∧ (¬ ((r_0_104.n : Int) ≠ 1)))) → ((0 : Int) ≤ 0 ∧ 0 < (r_0_70.n : Int)) ∧  r_0_70.a = some p_150) ∧
∃ (x_157 : Bool), ((((((¬ (r_1_71 ≠ 0)) ∧ (¬ (r_1_105 ≠ 0))) ∧ (¬ ((r_0_70.n : Int) ≠ r_131))) ∧ (¬ ((r_0_104.n : Int) ≠ 1)))) → w133.cell? ((p_150.add (0 * 6)).add 0) = some (.bool x_157)) ∧
∃ p_163 : Addr, (((((((¬ (r_1_71 ≠ 0)) ∧ (¬ (r_1_105 ≠ 0))) ∧ (¬ ((r_0_70.n : Int) ≠ r_131))) ∧ (¬ ((r_0_104.n : Int) ≠ 1))) ∧ (x_157 = false))) → ((0 : Int) ≤ 0 ∧ 0 < (r_0_70.n : Int)) ∧  r_0_70.a = some p_163) ∧
∃ (x_170 : Sl), (((((((¬ (r_1_71 ≠ 0)) ∧ (¬ (r_1_105 ≠ 0))) ∧ (¬ ((r_0_70.n : Int) ≠ r_131))) ∧ (¬ ((r_0_104.n : Int) ≠ 1))) ∧ (x_157 = false))) → w133.cell? ((p_163.add (0 * 6)).add 5) = some (Sl.v x_170)) ∧
∃ (r_179 : Bool), ((((((((¬ (r_1_71 ≠ 0)) ∧ (¬ (r_1_105 ≠ 0))) ∧ (¬ ((r_0_70.n : Int) ≠ r_131))) ∧ (¬ ((r_0_104.n : Int) ≠ 1))) ∧ (x_157 = false)) ∧ (¬ ((x_170.n : Int) ≠ 0)))) → Calls Try.prog 16 #[.agg #[.int .i64 r_5_Kind, .string (Bs r_5_Name), .string (Bs r_5_Text), Sl.v r_5_Attrs, Sl.v r_5_Kids], Sl.v r_0_70, .int .i64 0] w133 (Ret fun v w' => Ext w133 w' ∧ v = .bool r_179)) ∧
(∀ w181 : World, Ext w133 w181 →
((((((((r_1_71 ≠ 0) ∨ (r_1_105 ≠ 0)) ∨ ((r_0_70.n : Int) ≠ r_131)) ∨ ((r_0_104.n : Int) ≠ 1)) ∨ (x_157 = true)) ∨ ((x_170.n : Int) ≠ 0)) ∨ (r_179 = false)) →
R (.bool false) w181) ∧
((((((((¬ (r_1_71 ≠ 0)) ∧ (¬ (r_1_105 ≠ 0))) ∧ (¬ ((r_0_70.n : Int) ≠ r_131))) ∧ (¬ ((r_0_104.n : Int) ≠ 1))) ∧ (x_157 = false)) ∧ (¬ ((x_170.n : Int) ≠ 0))) ∧ (r_179 = true)) →
∃ (J_200 : Int → World → Prop) (mu_201 : Int → World → Nat),
J_200 1 w181 ∧
(∀ (i_198 : Int) (w199 : World), J_200 i_198 w199 →
((i_198 < (r_0_70.n : Int)) →
((0 : Int) ≤ i_198 ∧ i_198 < (r_0_70.n : Int)) ∧ ∃ p_298 : Addr, r_0_70.a = some p_298 ∧
∃ (x_305 : Bool), (w199.cell? ((p_298.add (i_198.toNat * 6)).add 0) = some (.bool x_305)) ∧
∃ (r_313 : Bool), (((x_305 = true)) → Calls Try.prog 16 #[.agg #[.int .i64 r_5_Kind, .string (Bs r_5_Name), .string (Bs r_5_Text), Sl.v r_5_Attrs, Sl.v r_5_Kids], Sl.v r_0_70, .int .i64 i_198] w199 (Ret fun v w' => Ext w199 w' ∧ v = .bool r_313)) ∧
(∀ w315 : World, Ext w199 w315 →
∃ p_327 : Addr, ((((x_305 = true) ∧ (r_313 = false))) → ((0 : Int) ≤ i_198 ∧ i_198 < (r_0_70.n : Int)) ∧  r_0_70.a = some p_327) ∧
∃ (x_334 : Int), ((((x_305 = true) ∧ (r_313 = false))) → w315.cell? ((p_327.add (i_198.toNat * 6)).add 4) = some (.int .i64 x_334)) ∧
∃ p_342 : Addr, (((((x_305 = true) ∧ (r_313 = false)) ∧ (¬ (x_334 ≠ 0)))) → ((0 : Int) ≤ i_198 ∧ i_198 < (r_0_70.n : Int)) ∧  r_0_70.a = some p_342) ∧
∃ (x_349 : Sl), (((((x_305 = true) ∧ (r_313 = false)) ∧ (¬ (x_334 ≠ 0)))) → w315.cell? ((p_342.add (i_198.toNat * 6)).add 5) = some (Sl.v x_349)) ∧
(((((x_305 = false) ∨ (r_313 = true)) ∨ (x_334 ≠ 0)) ∨ ((x_349.n : Int) ≠ 0)) →
R (.bool false) w315) ∧
(((((x_305 = true) ∧ (r_313 = false)) ∧ (¬ (x_334 ≠ 0))) ∧ (¬ ((x_349.n : Int) ≠ 0))) →
(I64 (i_198 + 1)) ∧
J_200 (i_198 + 1) w315 ∧ mu_201 (i_198 + 1) w315 < mu_201 i_198 w199))) ∧
((¬ (i_198 < (r_0_70.n : Int))) →
CallK Try.prog 11 #[.agg #[.int .i64 r_5_Kind, .string (Bs r_5_Name), .string (Bs r_5_Text), Sl.v r_5_Attrs, Sl.v r_5_Kids]] w199 [B_13, B_30] (fun v w371 => ∃ (r_369 : Sl), v = Sl.v r_369 ∧
CallK Try.prog 17 #[Sl.v r_369, .int .i64 0] w371 [B_13, B_30] (fun v w381 => ∃ (r_379 : Sl), v = Sl.v r_379 ∧
((0 : Int) ≤ 0 ∧ 0 < (r_0_104.n : Int)) ∧ ∃ p_392 : Addr, r_0_104.a = some p_392 ∧
∃ (x_399 : Sl), (w381.cell? ((p_392.add (0 * 6)).add 5) = some (Sl.v x_399)) ∧
∃ p_408 : Addr, (((¬ ((x_399.n : Int) ≠ (r_379.n : Int)))) → ((0 : Int) ≤ 0 ∧ 0 < (r_0_104.n : Int)) ∧  r_0_104.a = some p_408) ∧
∃ (x_415 : Int), (((¬ ((x_399.n : Int) ≠ (r_379.n : Int)))) → w381.cell? ((p_408.add (0 * 6)).add 4) = some (.int .i64 x_415)) ∧
∃ p_422 : Addr, ((((¬ ((x_399.n : Int) ≠ (r_379.n : Int))) ∧ (¬ (x_415 ≠ (-1))))) → ((0 : Int) ≤ 0 ∧ 0 < (r_0_104.n : Int)) ∧  r_0_104.a = some p_422) ∧
∃ (x_429 : Bool), ((((¬ ((x_399.n : Int) ≠ (r_379.n : Int))) ∧ (¬ (x_415 ≠ (-1))))) → w381.cell? ((p_422.add (0 * 6)).add 0) = some (.bool x_429)) ∧
(((((x_399.n : Int) ≠ (r_379.n : Int)) ∨ (x_415 ≠ (-1))) ∨ (x_429 = true)) →
R (.bool false) w381) ∧
((((¬ ((x_399.n : Int) ≠ (r_379.n : Int))) ∧ (¬ (x_415 ≠ (-1)))) ∧ (x_429 = false)) →
∃ (J_442 : Int → World → Prop) (mu_443 : Int → World → Nat),
J_442 0 w381 ∧
(∀ (i_440 : Int) (w441 : World), J_442 i_440 w441 →
((i_440 < (r_379.n : Int)) →
∀ (w524 : World), Chg [] w441 w524 →
∃ p_530 : Addr, (((0 : Int) ≤ 0 ∧ 0 < (r_0_104.n : Int)) ∧ r_0_104.a = some p_530) ∧
∃ (x_535 : Sl), (w524.cell? ((p_530.add (0 * 6)).add 5) = some (Sl.v x_535)) ∧
∃ p_540 : Addr, (((0 : Int) ≤ i_440 ∧ i_440 < (x_535.n : Int)) ∧ x_535.a = some p_540) ∧
∃ (x_544 : Int), (w524.cell? (p_540.add (i_440.toNat * 1)) = some (.int .i64 x_544)) ∧
∃ p_549 : Addr, (((0 : Int) ≤ i_440 ∧ i_440 < (r_379.n : Int)) ∧ r_379.a = some p_549) ∧
∃ (x_553 : Int), (w524.cell? (p_549.add (i_440.toNat * 1)) = some (.int .i64 x_553)) ∧
(I64 ((-2) - x_553)) ∧
((x_544 ≠ ((-2) - x_553)) →
∀ (w562 : World), Chg [] w524 w562 →
R (.bool false) w562) ∧
((¬ (x_544 ≠ ((-2) - x_553))) →
(I64 (i_440 + 1)) ∧
∀ (w562 : World), Chg [] w524 w562 →
J_442 (i_440 + 1) w562 ∧ mu_443 (i_440 + 1) w562 < mu_443 i_440 w441)) ∧
((¬ (i_440 < (r_379.n : Int))) →
CallK Try.prog 16 #[.agg #[.int .i64 1, .string (Bs ([] : Str)), .string (Bs ([] : Str)), Sl.v Sl.nil, Sl.v Sl.nil], Sl.v r_0_104, .int .i64 0] w441 [B_30] (fun v w590 => ∃ (r_588 : Bool), v = .bool r_588 ∧
∃ (r_598 : Bool), (((r_588 = true)) → Calls Try.prog 14 #[] w590 (Ret fun v w' => Ext w590 w' ∧ v = .bool r_598)) ∧
(∀ w600 : World, Ext w590 w600 →
R (.bool (r_588 && r_598)) w600)))))))))))))))
set_option maxHeartbeats 1000000 in
set_option maxRecDepth 10000 in
theorem law25_SlotsGone.ok (l_1 : Sl) {R : Value → World → Prop} {w : World} (ht0 : law25_SlotsGone.vc l_1 R w) : Calls Try.prog 4 #[Sl.v l_1] w (Ret R) := by
  refine enter [Sl.v l_1] Try.func4 rfl Try.ntmps4 rfl ?_
  intro a0 hA0
  unfold law25_SlotsGone.vc at ht0
  refine wp_seq ?_
  refine wp_region_lit ?_
  refine sq (opk_val hA0 rfl (r_assign rfl) fun a2 hA2 _ => ?_)
  refine sq_end ?_
  have hA3 := hA2.keep [(0, Sl.v l_1)] ⟨rfl, trivial⟩
  refine then_normal ?_
  refine wp_seq ?_
  refine wp_region_lit ?_
  refine sq (opk_val hA3 rfl (r_move (hA3.get rfl)) fun a4 hA4 _ => ?_)
  refine sq (opk_call hA4 rfl (r_call (args := #[Sl.v l_1]) Try.func8 (by decide) rfl (map_arr (ml_cons (hA4.get rfl) ml_nil)) rfl) ht0 fun a6 v12 w7 hA6 _ hn9 hz10 hK11 => ?_)
  obtain ⟨r_5_Kind, r_5_Name, r_5_Text, r_5_Attrs, r_5_Kids, rfl, ht8⟩ := hK11
  refine sq (opk_new (fun B => .pointer (some ⟨B, 0, none⟩)) hA6 rfl (r_alloc (cs := [.int .i64 0, .string (Bs ([] : Str)), .string (Bs ([] : Str)), Sl.v Sl.nil, Sl.v Sl.nil]) ti_26 rfl) fun a15 w14 B_13 hE16 hN17 hB18 hA15 _ => ?_)
  have hN19 : New w7 B_13 w14 := hN17
  have hC20 : Chg [] w7 w14 := hE16
  refine sq (opk_store hA15 hB18 (r_store (vs := [.int .i64 r_5_Kind, .string (Bs r_5_Name), .string (Bs r_5_Text), Sl.v r_5_Attrs, Sl.v r_5_Kids]) (hA15.get rfl) (hA15.get rfl) rfl ti_26 hB18 rfl (ones_all [.int .i64 r_5_Kind, .string (Bs r_5_Name), .string (Bs r_5_Text), Sl.v r_5_Attrs, Sl.v r_5_Kids] rfl)) fun a22 w21 hS23 hB24 hA22 => ?_)
  have hB25 : Box w21 B_13 26 [.int .i64 r_5_Kind, .string (Bs r_5_Name), .string (Bs r_5_Text), Sl.v r_5_Attrs, Sl.v r_5_Kids] := hB24
  have hC26 := hC20.storeNew hN19 hS23
  have hN27 := hN19.up hS23.size
  refine sq_end ?_
  have hA28 := hA22.keep [(3, .pointer (some (⟨B_13, 0, none⟩ : Addr)))] ⟨rfl, trivial⟩
  refine then_normal ?_
  refine wp_seq ?_
  refine wp_region_lit ?_
  refine sq (opk_val hA28 rfl (r_build (vs := #[(0, .int .i64 1)]) (cells := #[.int .i64 1, .string (Bs ([] : Str)), .string (Bs ([] : Str)), Sl.v Sl.nil, Sl.v Sl.nil]) (map_arr2 (ml2_cons rfl (ml2_nil))) ti_26 Try.underlying26 pl_26 (by kernel_rfl)) fun a29 hA29 _ => ?_)
  refine sq (opk_new (fun B => .pointer (some ⟨B, 0, none⟩)) hA29 rfl (r_alloc (cs := [.int .i64 0, .string (Bs ([] : Str)), .string (Bs ([] : Str)), Sl.v Sl.nil, Sl.v Sl.nil]) ti_26 rfl) fun a32 w31 B_30 hE33 hN34 hB35 hA32 _ => ?_)
  have hne36 : B_13 ≠ B_30 := Nat.ne_of_lt (Nat.lt_of_lt_of_le hB25.lt hN34.ge)
  have hN37 := New.of hC26 hN34
  have hB38 := hB25.ext hE33
  have hC39 := hC26.more hE33
  have hN40 := hN27.up hE33.size
  refine sq (opk_store hA32 hB35 (r_store (vs := [.int .i64 1, .string (Bs ([] : Str)), .string (Bs ([] : Str)), Sl.v Sl.nil, Sl.v Sl.nil]) (hA32.get rfl) (hA32.get rfl) rfl ti_26 hB35 rfl (ones_all [.int .i64 1, .string (Bs ([] : Str)), .string (Bs ([] : Str)), Sl.v Sl.nil, Sl.v Sl.nil] rfl)) fun a42 w41 hS43 hB44 hA42 => ?_)
  have hB45 : Box w41 B_30 26 [.int .i64 1, .string (Bs ([] : Str)), .string (Bs ([] : Str)), Sl.v Sl.nil, Sl.v Sl.nil] := hB44
  have hB46 := hB38.keep hS43 (by simpa using hne36)
  have hC47 := hC39.storeNew hN37 hS43
  have hN48 := hN40.up hS43.size
  have hN49 := hN37.up hS43.size
  refine sq_end ?_
  have hA50 := hA42.keep [(3, .pointer (some (⟨B_13, 0, none⟩ : Addr))), (4, .pointer (some (⟨B_30, 0, none⟩ : Addr)))] ⟨rfl, rfl, trivial⟩
  refine then_normal ?_
  refine wp_seq ?_
  refine wp_region_lit ?_
  refine sq (opk_val hA50 rfl (r_loadN (cs := [.int .i64 r_5_Kind, .string (Bs r_5_Name), .string (Bs r_5_Text), Sl.v r_5_Attrs, Sl.v r_5_Kids]) Try.underlying26 rfl ti_26 (hA50.get rfl) (hB46.part 0 _ rfl)) fun a51 hA51 _ => ?_)
  refine sq (opk_val hA51 rfl (r_loadN (cs := [.int .i64 1, .string (Bs ([] : Str)), .string (Bs ([] : Str)), Sl.v Sl.nil, Sl.v Sl.nil]) Try.underlying26 rfl ti_26 (hA51.get rfl) (hB45.part 0 _ rfl)) fun a52 hA52 _ => ?_)
  refine sq (opk_val hA52 rfl (r_build (vs := #[]) (cells := #[.int .i64 0, .int .i64 0]) (map_arr2 ml2_nil) ti_40 Try.underlying40 pl_40 (by kernel_rfl)) fun a53 hA53 _ => ?_)
  refine sq (opk_new (fun B => .slice (some ⟨B, 0, none⟩) 1 1) hA53 rfl (r_buildSlice (vs := #[(0, .agg #[.int .i64 0, .int .i64 0])]) (cs := [.int .i64 0, .int .i64 0]) (map_arr2 (ml2_cons (hA53.get rfl) (ml2_nil))) Try.underlying29 ti_40 rfl rfl (by kernel_rfl)) fun a56 w55 B_54 hE57 hN58 hB59 hA56 _ => ?_)
  have hne60 : B_13 ≠ B_54 := Nat.ne_of_lt (Nat.lt_of_lt_of_le hB46.lt hN58.ge)
  have hne61 : B_30 ≠ B_54 := Nat.ne_of_lt (Nat.lt_of_lt_of_le hB45.lt hN58.ge)
  have hN62 := New.of hC47 hN58
  have hB63 := hB46.ext hE57
  have hB64 := hB45.ext hE57
  have hC65 := hC47.more hE57
  have hN66 := hN48.up hE57.size
  have hN67 := hN49.up hE57.size
  have ht68 := ht8 w55 B_13 B_30 B_54 hN66 hN67 hN62 hne36 hne60 hne61 hC65
  have ht69 := ht68 hB59
  refine sq (opk_call hA56 rfl (r_call (args := #[.agg #[.int .i64 r_5_Kind, .string (Bs r_5_Name), .string (Bs r_5_Text), Sl.v r_5_Attrs, Sl.v r_5_Kids], .agg #[.int .i64 1, .string (Bs ([] : Str)), .string (Bs ([] : Str)), Sl.v Sl.nil, Sl.v Sl.nil], Sl.v (Sl.mk (some ⟨B_54, 0, none⟩) 1 1)]) Try.func12 (by decide) rfl (map_arr (ml_cons (hA56.get rfl) (ml_cons (hA56.get rfl) (ml_cons (hA56.get rfl) ml_nil)))) rfl) ht69 fun a72 v78 w73 hA72 _ hn75 hz76 hK77 => ?_)
  obtain ⟨r_0_70, r_1_71, rfl, ht74⟩ := hK77
  have hB79 := hB63.kept hn75 (.head _)
  have hB80 := hB64.kept hn75 (.tail _ (.head _))
  refine sq (opk_val hA72 rfl (r_move (hA72.get rfl)) fun a81 hA81 _ => ?_)
  refine sq (opk_val hA81 rfl (r_extract (hA81.get rfl) rfl) fun a82 hA82 _ => ?_)
  refine sq (opk_val hA82 rfl (r_extract (hA82.get rfl) rfl) fun a83 hA83 _ => ?_)
  refine sq (opk_val hA83 rfl (r_assign (hA83.get rfl)) fun a84 hA84 _ => ?_)
  refine sq (opk_val hA84 rfl (r_assign (hA84.get rfl)) fun a85 hA85 _ => ?_)
  refine sq_end ?_
  have hA86 := hA85.keep [(3, .pointer (some (⟨B_13, 0, none⟩ : Addr))), (4, .pointer (some (⟨B_30, 0, none⟩ : Addr))), (5, Sl.v r_0_70), (6, .int .i64 r_1_71)] ⟨rfl, rfl, rfl, rfl, trivial⟩
  refine then_normal ?_
  refine wp_seq ?_
  refine wp_region_lit ?_
  refine sq (opk_val hA86 rfl (r_loadN (cs := [.int .i64 1, .string (Bs ([] : Str)), .string (Bs ([] : Str)), Sl.v Sl.nil, Sl.v Sl.nil]) Try.underlying26 rfl ti_26 (hA86.get rfl) (hB80.part 0 _ rfl)) fun a87 hA87 _ => ?_)
  refine sq (opk_val hA87 rfl (r_loadN (cs := [.int .i64 r_5_Kind, .string (Bs r_5_Name), .string (Bs r_5_Text), Sl.v r_5_Attrs, Sl.v r_5_Kids]) Try.underlying26 rfl ti_26 (hA87.get rfl) (hB79.part 0 _ rfl)) fun a88 hA88 _ => ?_)
  refine sq (opk_val hA88 rfl (r_build (vs := #[]) (cells := #[.int .i64 0, .int .i64 0]) (map_arr2 ml2_nil) ti_40 Try.underlying40 pl_40 (by kernel_rfl)) fun a89 hA89 _ => ?_)
  refine sq (opk_new (fun B => .slice (some ⟨B, 0, none⟩) 1 1) hA89 rfl (r_buildSlice (vs := #[(0, .agg #[.int .i64 0, .int .i64 0])]) (cs := [.int .i64 0, .int .i64 0]) (map_arr2 (ml2_cons (hA89.get rfl) (ml2_nil))) Try.underlying29 ti_40 rfl rfl (by kernel_rfl)) fun a92 w91 B_90 hE93 hN94 hB95 hA92 _ => ?_)
  have hne96 : B_13 ≠ B_90 := Nat.ne_of_lt (Nat.lt_of_lt_of_le hB79.lt hN94.ge)
  have hne97 : B_30 ≠ B_90 := Nat.ne_of_lt (Nat.lt_of_lt_of_le hB80.lt hN94.ge)
  have hN98 : New w73 B_90 w91 := hN94
  have hB99 := hB79.ext hE93
  have hB100 := hB80.ext hE93
  have hC101 : Chg [] w73 w91 := hE93
  have ht102 := ht74 w91 B_90 hN98  hC101
  have ht103 := ht102 hB95
  refine sq (opk_call hA92 rfl (r_call (args := #[.agg #[.int .i64 1, .string (Bs ([] : Str)), .string (Bs ([] : Str)), Sl.v Sl.nil, Sl.v Sl.nil], .agg #[.int .i64 r_5_Kind, .string (Bs r_5_Name), .string (Bs r_5_Text), Sl.v r_5_Attrs, Sl.v r_5_Kids], Sl.v (Sl.mk (some ⟨B_90, 0, none⟩) 1 1)]) Try.func12 (by decide) rfl (map_arr (ml_cons (hA92.get rfl) (ml_cons (hA92.get rfl) (ml_cons (hA92.get rfl) ml_nil)))) rfl) ht103 fun a106 v112 w107 hA106 _ hn109 hz110 hK111 => ?_)
  obtain ⟨r_0_104, r_1_105, rfl, ht108⟩ := hK111
  have hB113 := hB99.kept hn109 (.head _)
  have hB114 := hB100.kept hn109 (.tail _ (.head _))
  refine sq (opk_val hA106 rfl (r_move (hA106.get rfl)) fun a115 hA115 _ => ?_)
  refine sq (opk_val hA115 rfl (r_extract (hA115.get rfl) rfl) fun a116 hA116 _ => ?_)
  refine sq (opk_val hA116 rfl (r_extract (hA116.get rfl) rfl) fun a117 hA117 _ => ?_)
  refine sq (opk_val hA117 rfl (r_assign (hA117.get rfl)) fun a118 hA118 _ => ?_)
  refine sq (opk_val hA118 rfl (r_assign (hA118.get rfl)) fun a119 hA119 _ => ?_)
  refine sq_end ?_
  have hA120 := hA119.keep [(3, .pointer (some (⟨B_13, 0, none⟩ : Addr))), (4, .pointer (some (⟨B_30, 0, none⟩ : Addr))), (5, Sl.v r_0_70), (6, .int .i64 r_1_71), (7, Sl.v r_0_104), (8, .int .i64 r_1_105)] ⟨rfl, rfl, rfl, rfl, rfl, rfl, trivial⟩
  refine then_normal ?_
  refine wp_seq ?_
  refine wp_seq ?_
  refine wp_region_lit ?_
  refine sq (opk_val hA120 rfl (r_move (hA120.get rfl)) fun a121 hA121 _ => ?_)
  refine sq (opk_val hA121 rfl (r_neq (hA121.get rfl) rfl) fun a122 hA122 _ => ?_)
  refine sq (opk_val hA122 rfl (r_move (hA122.get rfl)) fun a123 hA123 _ => ?_)
  refine sq (opk_gval hA123 rfl rfl (g := true) (e := (decide (r_1_71 ≠ 0))) rfl (fun hg => r_move (hA123.get rfl)) fun a124 hA124 _ => ?_)
  refine sq (opk_gval hA124 rfl rfl (g := true) (e := (decide (r_1_71 ≠ 0))) rfl (fun hg => r_neq (cv_get (hA124.get rfl) hg) rfl) fun a125 hA125 _ => ?_)
  refine sq (opk_val hA125 rfl (r_pick_or (g := (true && ((decide (r_1_71 ≠ 0)) == false))) (hA125.get rfl) (hA125.get rfl) (fun he => g_mkf rfl he)) fun a126 hA126 _ => ?_)
  refine sq (opk_val hA126 rfl (r_move (hA126.get rfl)) fun a127 hA127 _ => ?_)
  refine sq (opk_gval hA127 rfl rfl (g := true) (e := ((decide (r_1_71 ≠ 0)) || (decide (r_1_105 ≠ 0)))) rfl (fun hg => r_move (hA127.get rfl)) fun a128 hA128 _ => ?_)
  refine sq (opk_gval hA128 rfl rfl (g := true) (e := ((decide (r_1_71 ≠ 0)) || (decide (r_1_105 ≠ 0)))) rfl (fun hg => r_len (cv_get (hA128.get rfl) hg) Try.underlying33) fun a129 hA129 _ => ?_)
  refine sq (opk_gval hA129 rfl rfl (g := true) (e := ((decide (r_1_71 ≠ 0)) || (decide (r_1_105 ≠ 0)))) rfl (fun hg => r_loadN (cs := [.int .i64 r_5_Kind, .string (Bs r_5_Name), .string (Bs r_5_Text), Sl.v r_5_Attrs, Sl.v r_5_Kids]) Try.underlying26 rfl ti_26 (hA129.get rfl) (hB113.part 0 _ rfl)) fun a130 hA130 _ => ?_)
  obtain ⟨r_131, hc135, ht134⟩ := ht108
  refine sq (opk_gcall hA130 rfl rfl (g := true) (e := ((decide (r_1_71 ≠ 0)) || (decide (r_1_105 ≠ 0)))) rfl (fun hg => r_call (args := #[.agg #[.int .i64 r_5_Kind, .string (Bs r_5_Name), .string (Bs r_5_Text), Sl.v r_5_Attrs, Sl.v r_5_Kids]]) Try.func15 (by decide) rfl (map_arr (ml_cons (cv_get (hA130.get rfl) hg) ml_nil)) rfl) (fun hg => hc135 ⟨(of_decide_eq_false (b_or_f (g_f hg)).1), (of_decide_eq_false (b_or_f (g_f hg)).2)⟩) fun a132 w133 hA132 _ hE136 => ?_)
  have hB137 := hB113.ext hE136
  have hB138 := hB114.ext hE136
  have hC139 : Chg [] w107 w133 := hE136
  have ht140 := ht134 w133 hE136
  refine sq (opk_gval hA132 rfl rfl (g := true) (e := ((decide (r_1_71 ≠ 0)) || (decide (r_1_105 ≠ 0)))) rfl (fun hg => r_neq (cv_get (hA132.get rfl) hg) (cv_get (hA132.get rfl) hg)) fun a141 hA141 _ => ?_)
  refine sq (opk_val hA141 rfl (r_pick_or (g := (true && (((decide (r_1_71 ≠ 0)) || (decide (r_1_105 ≠ 0))) == false))) (hA141.get rfl) (hA141.get rfl) (fun he => g_mkf rfl he)) fun a142 hA142 _ => ?_)
  refine sq (opk_val hA142 rfl (r_move (hA142.get rfl)) fun a143 hA143 _ => ?_)
  refine sq (opk_gval hA143 rfl rfl (g := true) (e := (((decide (r_1_71 ≠ 0)) || (decide (r_1_105 ≠ 0))) || (decide ((r_0_70.n : Int) ≠ r_131)))) rfl (fun hg => r_move (hA143.get rfl)) fun a144 hA144 _ => ?_)
  refine sq (opk_gval hA144 rfl rfl (g := true) (e := (((decide (r_1_71 ≠ 0)) || (decide (r_1_105 ≠ 0))) || (decide ((r_0_70.n : Int) ≠ r_131)))) rfl (fun hg => r_len (cv_get (hA144.get rfl) hg) Try.underlying33) fun a145 hA145 _ => ?_)
  refine sq (opk_gval hA145 rfl rfl (g := true) (e := (((decide (r_1_71 ≠ 0)) || (decide (r_1_105 ≠ 0))) || (decide ((r_0_70.n : Int) ≠ r_131)))) rfl (fun hg => r_neq (cv_get (hA145.get rfl) hg) rfl) fun a146 hA146 _ => ?_)
  refine sq (opk_val hA146 rfl (r_pick_or (g := (true && ((((decide (r_1_71 ≠ 0)) || (decide (r_1_105 ≠ 0))) || (decide ((r_0_70.n : Int) ≠ r_131))) == false))) (hA146.get rfl) (hA146.get rfl) (fun he => g_mkf rfl he)) fun a147 hA147 _ => ?_)
  refine sq (opk_val hA147 rfl (r_move (hA147.get rfl)) fun a148 hA148 _ => ?_)
  refine sq (opk_gval hA148 rfl rfl (g := true) (e := ((((decide (r_1_71 ≠ 0)) || (decide (r_1_105 ≠ 0))) || (decide ((r_0_70.n : Int) ≠ r_131))) || (decide ((r_0_104.n : Int) ≠ 1)))) rfl (fun hg => r_move (hA148.get rfl)) fun a149 hA149 _ => ?_)
  obtain ⟨p_150, hp152, ht153⟩ := ht140
  refine sq (opk_gval hA149 rfl rfl (g := true) (e := ((((decide (r_1_71 ≠ 0)) || (decide (r_1_105 ≠ 0))) || (decide ((r_0_70.n : Int) ≠ r_131))) || (decide ((r_0_104.n : Int) ≠ 1)))) rfl (fun hg => r_indexAddr (cv_get (hA149.get rfl) hg) rfl Try.underlying33 ti_43 (hp152 ⟨⟨⟨(of_decide_eq_false (b_or_f (b_or_f (b_or_f (g_f hg)).1).1).1), (of_decide_eq_false (b_or_f (b_or_f (b_or_f (g_f hg)).1).1).2)⟩, (of_decide_eq_false (b_or_f (b_or_f (g_f hg)).1).2)⟩, (of_decide_eq_false (b_or_f (g_f hg)).2)⟩).1 (hp152 ⟨⟨⟨(of_decide_eq_false (b_or_f (b_or_f (b_or_f (g_f hg)).1).1).1), (of_decide_eq_false (b_or_f (b_or_f (b_or_f (g_f hg)).1).1).2)⟩, (of_decide_eq_false (b_or_f (b_or_f (g_f hg)).1).2)⟩, (of_decide_eq_false (b_or_f (g_f hg)).2)⟩).2) fun a154 hA154 _ => ?_)
  refine sq (opk_gval hA154 rfl rfl (g := true) (e := ((((decide (r_1_71 ≠ 0)) || (decide (r_1_105 ≠ 0))) || (decide ((r_0_70.n : Int) ≠ r_131))) || (decide ((r_0_104.n : Int) ≠ 1)))) rfl (fun hg => r_fieldAddr (cv_get (hA154.get rfl) hg) Try.underlying43 rfl ti_4 (by decide)) fun a155 hA155 _ => ?_)
  obtain ⟨x_157, hx158, ht159⟩ := ht153
  refine sq (opk_gval hA155 rfl rfl (g := true) (e := ((((decide (r_1_71 ≠ 0)) || (decide (r_1_105 ≠ 0))) || (decide ((r_0_70.n : Int) ≠ r_131))) || (decide ((r_0_104.n : Int) ≠ 1)))) rfl (fun hg => r_load1 Try.underlying4 rfl (cv_get (hA155.get rfl) hg) (hx158 ⟨⟨⟨(of_decide_eq_false (b_or_f (b_or_f (b_or_f (g_f hg)).1).1).1), (of_decide_eq_false (b_or_f (b_or_f (b_or_f (g_f hg)).1).1).2)⟩, (of_decide_eq_false (b_or_f (b_or_f (g_f hg)).1).2)⟩, (of_decide_eq_false (b_or_f (g_f hg)).2)⟩)) fun a156 hA156 _ => ?_)
  refine sq (opk_val hA156 rfl (r_pick_or (g := (true && (((((decide (r_1_71 ≠ 0)) || (decide (r_1_105 ≠ 0))) || (decide ((r_0_70.n : Int) ≠ r_131))) || (decide ((r_0_104.n : Int) ≠ 1))) == false))) (hA156.get rfl) (hA156.get rfl) (fun he => g_mkf rfl he)) fun a160 hA160 _ => ?_)
  refine sq (opk_val hA160 rfl (r_move (hA160.get rfl)) fun a161 hA161 _ => ?_)
  refine sq (opk_gval hA161 rfl rfl (g := true) (e := (((((decide (r_1_71 ≠ 0)) || (decide (r_1_105 ≠ 0))) || (decide ((r_0_70.n : Int) ≠ r_131))) || (decide ((r_0_104.n : Int) ≠ 1))) || x_157)) rfl (fun hg => r_move (hA161.get rfl)) fun a162 hA162 _ => ?_)
  obtain ⟨p_163, hp165, ht166⟩ := ht159
  refine sq (opk_gval hA162 rfl rfl (g := true) (e := (((((decide (r_1_71 ≠ 0)) || (decide (r_1_105 ≠ 0))) || (decide ((r_0_70.n : Int) ≠ r_131))) || (decide ((r_0_104.n : Int) ≠ 1))) || x_157)) rfl (fun hg => r_indexAddr (cv_get (hA162.get rfl) hg) rfl Try.underlying33 ti_43 (hp165 ⟨⟨⟨⟨(of_decide_eq_false (b_or_f (b_or_f (b_or_f (b_or_f (g_f hg)).1).1).1).1), (of_decide_eq_false (b_or_f (b_or_f (b_or_f (b_or_f (g_f hg)).1).1).1).2)⟩, (of_decide_eq_false (b_or_f (b_or_f (b_or_f (g_f hg)).1).1).2)⟩, (of_decide_eq_false (b_or_f (b_or_f (g_f hg)).1).2)⟩, (b_or_f (g_f hg)).2⟩).1 (hp165 ⟨⟨⟨⟨(of_decide_eq_false (b_or_f (b_or_f (b_or_f (b_or_f (g_f hg)).1).1).1).1), (of_decide_eq_false (b_or_f (b_or_f (b_or_f (b_or_f (g_f hg)).1).1).1).2)⟩, (of_decide_eq_false (b_or_f (b_or_f (b_or_f (g_f hg)).1).1).2)⟩, (of_decide_eq_false (b_or_f (b_or_f (g_f hg)).1).2)⟩, (b_or_f (g_f hg)).2⟩).2) fun a167 hA167 _ => ?_)
  refine sq (opk_gval hA167 rfl rfl (g := true) (e := (((((decide (r_1_71 ≠ 0)) || (decide (r_1_105 ≠ 0))) || (decide ((r_0_70.n : Int) ≠ r_131))) || (decide ((r_0_104.n : Int) ≠ 1))) || x_157)) rfl (fun hg => r_fieldAddr (cv_get (hA167.get rfl) hg) Try.underlying43 rfl ti_22 (by decide)) fun a168 hA168 _ => ?_)
  obtain ⟨x_170, hx171, ht172⟩ := ht166
  refine sq (opk_gval hA168 rfl rfl (g := true) (e := (((((decide (r_1_71 ≠ 0)) || (decide (r_1_105 ≠ 0))) || (decide ((r_0_70.n : Int) ≠ r_131))) || (decide ((r_0_104.n : Int) ≠ 1))) || x_157)) rfl (fun hg => r_load1 Try.underlying22 rfl (cv_get (hA168.get rfl) hg) (hx171 ⟨⟨⟨⟨(of_decide_eq_false (b_or_f (b_or_f (b_or_f (b_or_f (g_f hg)).1).1).1).1), (of_decide_eq_false (b_or_f (b_or_f (b_or_f (b_or_f (g_f hg)).1).1).1).2)⟩, (of_decide_eq_false (b_or_f (b_or_f (b_or_f (g_f hg)).1).1).2)⟩, (of_decide_eq_false (b_or_f (b_or_f (g_f hg)).1).2)⟩, (b_or_f (g_f hg)).2⟩)) fun a169 hA169 _ => ?_)
  refine sq (opk_gval hA169 rfl rfl (g := true) (e := (((((decide (r_1_71 ≠ 0)) || (decide (r_1_105 ≠ 0))) || (decide ((r_0_70.n : Int) ≠ r_131))) || (decide ((r_0_104.n : Int) ≠ 1))) || x_157)) rfl (fun hg => r_len (cv_get (hA169.get rfl) hg) Try.underlying22) fun a173 hA173 _ => ?_)
  refine sq (opk_gval hA173 rfl rfl (g := true) (e := (((((decide (r_1_71 ≠ 0)) || (decide (r_1_105 ≠ 0))) || (decide ((r_0_70.n : Int) ≠ r_131))) || (decide ((r_0_104.n : Int) ≠ 1))) || x_157)) rfl (fun hg => r_neq (cv_get (hA173.get rfl) hg) rfl) fun a174 hA174 _ => ?_)
  refine sq (opk_val hA174 rfl (r_pick_or (g := (true && ((((((decide (r_1_71 ≠ 0)) || (decide (r_1_105 ≠ 0))) || (decide ((r_0_70.n : Int) ≠ r_131))) || (decide ((r_0_104.n : Int) ≠ 1))) || x_157) == false))) (hA174.get rfl) (hA174.get rfl) (fun he => g_mkf rfl he)) fun a175 hA175 _ => ?_)
  refine sq (opk_val hA175 rfl (r_move (hA175.get rfl)) fun a176 hA176 _ => ?_)
  refine sq (opk_gval hA176 rfl rfl (g := true) (e := ((((((decide (r_1_71 ≠ 0)) || (decide (r_1_105 ≠ 0))) || (decide ((r_0_70.n : Int) ≠ r_131))) || (decide ((r_0_104.n : Int) ≠ 1))) || x_157) || (decide ((x_170.n : Int) ≠ 0)))) rfl (fun hg => r_loadN (cs := [.int .i64 r_5_Kind, .string (Bs r_5_Name), .string (Bs r_5_Text), Sl.v r_5_Attrs, Sl.v r_5_Kids]) Try.underlying26 rfl ti_26 (hA176.get rfl) (hB137.part 0 _ rfl)) fun a177 hA177 _ => ?_)
  refine sq (opk_gval hA177 rfl rfl (g := true) (e := ((((((decide (r_1_71 ≠ 0)) || (decide (r_1_105 ≠ 0))) || (decide ((r_0_70.n : Int) ≠ r_131))) || (decide ((r_0_104.n : Int) ≠ 1))) || x_157) || (decide ((x_170.n : Int) ≠ 0)))) rfl (fun hg => r_move (hA177.get rfl)) fun a178 hA178 _ => ?_)
  obtain ⟨r_179, hc183, ht182⟩ := ht172
  refine sq (opk_gcall hA178 rfl rfl (g := true) (e := ((((((decide (r_1_71 ≠ 0)) || (decide (r_1_105 ≠ 0))) || (decide ((r_0_70.n : Int) ≠ r_131))) || (decide ((r_0_104.n : Int) ≠ 1))) || x_157) || (decide ((x_170.n : Int) ≠ 0)))) rfl (fun hg => r_call (args := #[.agg #[.int .i64 r_5_Kind, .string (Bs r_5_Name), .string (Bs r_5_Text), Sl.v r_5_Attrs, Sl.v r_5_Kids], Sl.v r_0_70, .int .i64 0]) Try.func16 (by decide) rfl (map_arr (ml_cons (cv_get (hA178.get rfl) hg) (ml_cons (cv_get (hA178.get rfl) hg) (ml_cons rfl ml_nil)))) rfl) (fun hg => hc183 ⟨⟨⟨⟨⟨(of_decide_eq_false (b_or_f (b_or_f (b_or_f (b_or_f (b_or_f (g_f hg)).1).1).1).1).1), (of_decide_eq_false (b_or_f (b_or_f (b_or_f (b_or_f (b_or_f (g_f hg)).1).1).1).1).2)⟩, (of_decide_eq_false (b_or_f (b_or_f (b_or_f (b_or_f (g_f hg)).1).1).1).2)⟩, (of_decide_eq_false (b_or_f (b_or_f (b_or_f (g_f hg)).1).1).2)⟩, (b_or_f (b_or_f (g_f hg)).1).2⟩, (of_decide_eq_false (b_or_f (g_f hg)).2)⟩) fun a180 w181 hA180 _ hE184 => ?_)
  have hB185 := hB137.ext hE184
  have hB186 := hB138.ext hE184
  have hC187 : Chg [] w133 w181 := hE184
  have ht188 := ht182 w181 hE184
  refine sq (opk_gval hA180 rfl rfl (g := true) (e := ((((((decide (r_1_71 ≠ 0)) || (decide (r_1_105 ≠ 0))) || (decide ((r_0_70.n : Int) ≠ r_131))) || (decide ((r_0_104.n : Int) ≠ 1))) || x_157) || (decide ((x_170.n : Int) ≠ 0)))) rfl (fun hg => r_not (cv_get (hA180.get rfl) hg)) fun a189 hA189 _ => ?_)
  refine sq (opk_val hA189 rfl (r_pick_or (g := (true && (((((((decide (r_1_71 ≠ 0)) || (decide (r_1_105 ≠ 0))) || (decide ((r_0_70.n : Int) ≠ r_131))) || (decide ((r_0_104.n : Int) ≠ 1))) || x_157) || (decide ((x_170.n : Int) ≠ 0))) == false))) (hA189.get rfl) (hA189.get rfl) (fun he => g_mkf rfl he)) fun a190 hA190 _ => ?_)
  refine sq_end ?_
  have hA191 := hA190.keep [(3, .pointer (some (⟨B_13, 0, none⟩ : Addr))), (4, .pointer (some (⟨B_30, 0, none⟩ : Addr))), (5, Sl.v r_0_70), (7, Sl.v r_0_104), (68, .bool (((((((decide (r_1_71 ≠ 0)) || (decide (r_1_105 ≠ 0))) || (decide ((r_0_70.n : Int) ≠ r_131))) || (decide ((r_0_104.n : Int) ≠ 1))) || x_157) || (decide ((x_170.n : Int) ≠ 0))) || (!r_179)))] ⟨rfl, rfl, rfl, rfl, rfl, trivial⟩
  refine then_normal ?_
  refine wp_cond_split (hA191.get rfl) (fun hc => ?_) (fun hc => ?_)
  · have ht192 := ht188.1 ((b_or_t hc).imp (fun h => ((b_or_t h).imp (fun h => ((b_or_t h).imp (fun h => ((b_or_t h).imp (fun h => ((b_or_t h).imp (fun h => ((b_or_t h).imp (fun h => (of_decide_eq_true h)) (fun h => (of_decide_eq_true h)))) (fun h => (of_decide_eq_true h)))) (fun h => (of_decide_eq_true h)))) (fun h => h))) (fun h => (of_decide_eq_true h)))) (fun h => (b_not_t h)))
    clear hc
    refine wp_seq ?_
    refine wp_region_lit ?_
    refine sq (opk_val hA191 rfl (r_assign rfl) fun a194 hA194 _ => ?_)
    refine sq_end ?_
    have hA195 := hA194.keep [(2, .bool false)] ⟨rfl, trivial⟩
    refine then_normal ?_
    refine wp_ret ?_
    refine then_ret ?_
    exact res_all (vs := [.bool false]) rfl hA195 ⟨res_of_tmp hA195 rfl, trivial⟩ ht192
  · have ht193 := ht188.2 ⟨⟨⟨⟨⟨⟨(of_decide_eq_false (b_or_f (b_or_f (b_or_f (b_or_f (b_or_f (b_or_f hc).1).1).1).1).1).1), (of_decide_eq_false (b_or_f (b_or_f (b_or_f (b_or_f (b_or_f (b_or_f hc).1).1).1).1).1).2)⟩, (of_decide_eq_false (b_or_f (b_or_f (b_or_f (b_or_f (b_or_f hc).1).1).1).1).2)⟩, (of_decide_eq_false (b_or_f (b_or_f (b_or_f (b_or_f hc).1).1).1).2)⟩, (b_or_f (b_or_f (b_or_f hc).1).1).2⟩, (of_decide_eq_false (b_or_f (b_or_f hc).1).2)⟩, (b_not_f (b_or_f hc).2)⟩
    clear hc
    refine wp_skip ?_
    refine then_normal ?_
    refine wp_seq ?_
    refine wp_seq ?_
    refine wp_region_lit ?_
    refine sq (opk_val hA191 rfl (r_assign rfl) fun a196 hA196 _ => ?_)
    refine sq_end ?_
    have hA197 := hA196.keep [(3, .pointer (some (⟨B_13, 0, none⟩ : Addr))), (4, .pointer (some (⟨B_30, 0, none⟩ : Addr))), (5, Sl.v r_0_70), (7, Sl.v r_0_104), (9, .int .i64 1)] ⟨rfl, rfl, rfl, rfl, rfl, trivial⟩
    refine then_normal ?_
    refine wp_block ?_
    obtain ⟨J_200, mu_201, h0286, ht285⟩ := ht193
    refine wp_loop_st (σ := Int × World) (fun s a w => Ag 153 a [(3, .pointer (some (⟨B_13, 0, none⟩ : Addr))), (4, .pointer (some (⟨B_30, 0, none⟩ : Addr))), (5, Sl.v r_0_70), (7, Sl.v r_0_104), (9, .int .i64 s.1)] ∧ Box w B_13 26 [.int .i64 r_5_Kind, .string (Bs r_5_Name), .string (Bs r_5_Text), Sl.v r_5_Attrs, Sl.v r_5_Kids] ∧ Box w B_30 26 [.int .i64 1, .string (Bs ([] : Str)), .string (Bs ([] : Str)), Sl.v Sl.nil, Sl.v Sl.nil] ∧ w = s.2 ∧ J_200 s.1 s.2) (fun s => mu_201 s.1 s.2) (1, w181) ⟨hA197.keep [(3, .pointer (some (⟨B_13, 0, none⟩ : Addr))), (4, .pointer (some (⟨B_30, 0, none⟩ : Addr))), (5, Sl.v r_0_70), (7, Sl.v r_0_104), (9, .int .i64 1)] ⟨rfl, rfl, rfl, rfl, rfl, trivial⟩, hB185, hB186, rfl, h0286⟩ ?_
    rintro ⟨i_198, w199⟩ a282 w_ ⟨hA282, hB283, hB284, hw_, hJ288⟩
    have hw_ : w199 = w_ := hw_.symm
    subst hw_
    have ht287 := ht285 i_198 _ hJ288
    refine wp_seq ?_
    refine wp_seq ?_
    refine wp_region_lit ?_
    refine sq (opk_val hA282 rfl (r_move (hA282.get rfl)) fun a289 hA289 _ => ?_)
    refine sq (opk_val hA289 rfl (r_move (hA289.get rfl)) fun a290 hA290 _ => ?_)
    refine sq (opk_val hA290 rfl (r_len (hA290.get rfl) Try.underlying33) fun a291 hA291 _ => ?_)
    refine sq (opk_val hA291 rfl (r_lss (hA291.get rfl) (hA291.get rfl)) fun a292 hA292 _ => ?_)
    refine sq_end ?_
    have hA293 := hA292.keep [(3, .pointer (some (⟨B_13, 0, none⟩ : Addr))), (4, .pointer (some (⟨B_30, 0, none⟩ : Addr))), (5, Sl.v r_0_70), (7, Sl.v r_0_104), (9, .int .i64 i_198), (72, .bool (decide (i_198 < (r_0_70.n : Int))))] ⟨rfl, rfl, rfl, rfl, rfl, rfl, trivial⟩
    refine then_normal ?_
    refine wp_cond_split (hA293.get rfl) (fun hc => ?_) (fun hc => ?_)
    · have ht294 := ht287.1 (of_decide_eq_true hc)
      clear hc
      refine wp_skip ?_
      refine then_normal ?_
      refine wp_seq ?_
      refine wp_block ?_
      refine wp_seq ?_
      refine wp_region_lit ?_
      refine sq (opk_val hA293 rfl (r_move (hA293.get rfl)) fun a296 hA296 _ => ?_)
      refine sq (opk_val hA296 rfl (r_move (hA296.get rfl)) fun a297 hA297 _ => ?_)
      obtain ⟨hb299, p_298, hp300, ht301⟩ := ht294
      refine sq (opk_val hA297 rfl (r_indexAddr (hA297.get rfl) (hA297.get rfl) Try.underlying33 ti_43 hb299 hp300) fun a302 hA302 _ => ?_)
      refine sq (opk_val hA302 rfl (r_fieldAddr (hA302.get rfl) Try.underlying43 rfl ti_4 (by decide)) fun a303 hA303 _ => ?_)
      obtain ⟨x_305, hx306, ht307⟩ := ht301
      refine sq (opk_val hA303 rfl (r_load1 Try.underlying4 rfl (hA303.get rfl) hx306) fun a304 hA304 _ => ?_)
      refine sq (opk_val hA304 rfl (r_not (hA304.get rfl)) fun a308 hA308 _ => ?_)
      refine sq (opk_val hA308 rfl (r_move (hA308.get rfl)) fun a309 hA309 _ => ?_)
      refine sq (opk_gval hA309 rfl rfl (g := true) (e := (!x_305)) rfl (fun hg => r_loadN (cs := [.int .i64 r_5_Kind, .string (Bs r_5_Name), .string (Bs r_5_Text), Sl.v r_5_Attrs, Sl.v r_5_Kids]) Try.underlying26 rfl ti_26 (hA309.get rfl) (hB283.part 0 _ rfl)) fun a310 hA310 _ => ?_)
      refine sq (opk_gval hA310 rfl rfl (g := true) (e := (!x_305)) rfl (fun hg => r_move (hA310.get rfl)) fun a311 hA311 _ => ?_)
      refine sq (opk_gval hA311 rfl rfl (g := true) (e := (!x_305)) rfl (fun hg => r_move (hA311.get rfl)) fun a312 hA312 _ => ?_)
      obtain ⟨r_313, hc317, ht316⟩ := ht307
      refine sq (opk_gcall hA312 rfl rfl (g := true) (e := (!x_305)) rfl (fun hg => r_call (args := #[.agg #[.int .i64 r_5_Kind, .string (Bs r_5_Name), .string (Bs r_5_Text), Sl.v r_5_Attrs, Sl.v r_5_Kids], Sl.v r_0_70, .int .i64 i_198]) Try.func16 (by decide) rfl (map_arr (ml_cons (cv_get (hA312.get rfl) hg) (ml_cons (cv_get (hA312.get rfl) hg) (ml_cons (cv_get (hA312.get rfl) hg) ml_nil)))) rfl) (fun hg => hc317 (b_not_f (g_f hg))) fun a314 w315 hA314 _ hE318 => ?_)
      have hB319 := hB283.ext hE318
      have hB320 := hB284.ext hE318
      have hC321 : Chg [] w199 w315 := hE318
      have ht322 := ht316 w315 hE318
      refine sq (opk_val hA314 rfl (r_pick_or (g := (true && ((!x_305) == false))) (hA314.get rfl) (hA314.get rfl) (fun he => g_mkf rfl he)) fun a323 hA323 _ => ?_)
      refine sq (opk_val hA323 rfl (r_move (hA323.get rfl)) fun a324 hA324 _ => ?_)
      refine sq (opk_gval hA324 rfl rfl (g := true) (e := ((!x_305) || r_313)) rfl (fun hg => r_move (hA324.get rfl)) fun a325 hA325 _ => ?_)
      refine sq (opk_gval hA325 rfl rfl (g := true) (e := ((!x_305) || r_313)) rfl (fun hg => r_move (hA325.get rfl)) fun a326 hA326 _ => ?_)
      obtain ⟨p_327, hp329, ht330⟩ := ht322
      refine sq (opk_gval hA326 rfl rfl (g := true) (e := ((!x_305) || r_313)) rfl (fun hg => r_indexAddr (cv_get (hA326.get rfl) hg) (cv_get (hA326.get rfl) hg) Try.underlying33 ti_43 (hp329 ⟨(b_not_f (b_or_f (g_f hg)).1), (b_or_f (g_f hg)).2⟩).1 (hp329 ⟨(b_not_f (b_or_f (g_f hg)).1), (b_or_f (g_f hg)).2⟩).2) fun a331 hA331 _ => ?_)
      refine sq (opk_gval hA331 rfl rfl (g := true) (e := ((!x_305) || r_313)) rfl (fun hg => r_fieldAddr (cv_get (hA331.get rfl) hg) Try.underlying43 rfl ti_3 (by decide)) fun a332 hA332 _ => ?_)
      obtain ⟨x_334, hx335, ht336⟩ := ht330
      refine sq (opk_gval hA332 rfl rfl (g := true) (e := ((!x_305) || r_313)) rfl (fun hg => r_load1 Try.underlying3 rfl (cv_get (hA332.get rfl) hg) (hx335 ⟨(b_not_f (b_or_f (g_f hg)).1), (b_or_f (g_f hg)).2⟩)) fun a333 hA333 _ => ?_)
      refine sq (opk_gval hA333 rfl rfl (g := true) (e := ((!x_305) || r_313)) rfl (fun hg => r_neq (cv_get (hA333.get rfl) hg) rfl) fun a337 hA337 _ => ?_)
      refine sq (opk_val hA337 rfl (r_pick_or (g := (true && (((!x_305) || r_313) == false))) (hA337.get rfl) (hA337.get rfl) (fun he => g_mkf rfl he)) fun a338 hA338 _ => ?_)
      refine sq (opk_val hA338 rfl (r_move (hA338.get rfl)) fun a339 hA339 _ => ?_)
      refine sq (opk_gval hA339 rfl rfl (g := true) (e := (((!x_305) || r_313) || (decide (x_334 ≠ 0)))) rfl (fun hg => r_move (hA339.get rfl)) fun a340 hA340 _ => ?_)
      refine sq (opk_gval hA340 rfl rfl (g := true) (e := (((!x_305) || r_313) || (decide (x_334 ≠ 0)))) rfl (fun hg => r_move (hA340.get rfl)) fun a341 hA341 _ => ?_)
      obtain ⟨p_342, hp344, ht345⟩ := ht336
      refine sq (opk_gval hA341 rfl rfl (g := true) (e := (((!x_305) || r_313) || (decide (x_334 ≠ 0)))) rfl (fun hg => r_indexAddr (cv_get (hA341.get rfl) hg) (cv_get (hA341.get rfl) hg) Try.underlying33 ti_43 (hp344 ⟨⟨(b_not_f (b_or_f (b_or_f (g_f hg)).1).1), (b_or_f (b_or_f (g_f hg)).1).2⟩, (of_decide_eq_false (b_or_f (g_f hg)).2)⟩).1 (hp344 ⟨⟨(b_not_f (b_or_f (b_or_f (g_f hg)).1).1), (b_or_f (b_or_f (g_f hg)).1).2⟩, (of_decide_eq_false (b_or_f (g_f hg)).2)⟩).2) fun a346 hA346 _ => ?_)
      refine sq (opk_gval hA346 rfl rfl (g := true) (e := (((!x_305) || r_313) || (decide (x_334 ≠ 0)))) rfl (fun hg => r_fieldAddr (cv_get (hA346.get rfl) hg) Try.underlying43 rfl ti_22 (by decide)) fun a347 hA347 _ => ?_)
      obtain ⟨x_349, hx350, ht351⟩ := ht345
      refine sq (opk_gval hA347 rfl rfl (g := true) (e := (((!x_305) || r_313) || (decide (x_334 ≠ 0)))) rfl (fun hg => r_load1 Try.underlying22 rfl (cv_get (hA347.get rfl) hg) (hx350 ⟨⟨(b_not_f (b_or_f (b_or_f (g_f hg)).1).1), (b_or_f (b_or_f (g_f hg)).1).2⟩, (of_decide_eq_false (b_or_f (g_f hg)).2)⟩)) fun a348 hA348 _ => ?_)
      refine sq (opk_gval hA348 rfl rfl (g := true) (e := (((!x_305) || r_313) || (decide (x_334 ≠ 0)))) rfl (fun hg => r_len (cv_get (hA348.get rfl) hg) Try.underlying22) fun a352 hA352 _ => ?_)
      refine sq (opk_gval hA352 rfl rfl (g := true) (e := (((!x_305) || r_313) || (decide (x_334 ≠ 0)))) rfl (fun hg => r_neq (cv_get (hA352.get rfl) hg) rfl) fun a353 hA353 _ => ?_)
      refine sq (opk_val hA353 rfl (r_pick_or (g := (true && ((((!x_305) || r_313) || (decide (x_334 ≠ 0))) == false))) (hA353.get rfl) (hA353.get rfl) (fun he => g_mkf rfl he)) fun a354 hA354 _ => ?_)
      refine sq_end ?_
      have hA355 := hA354.keep [(3, .pointer (some (⟨B_13, 0, none⟩ : Addr))), (4, .pointer (some (⟨B_30, 0, none⟩ : Addr))), (5, Sl.v r_0_70), (7, Sl.v r_0_104), (9, .int .i64 i_198), (103, .bool ((((!x_305) || r_313) || (decide (x_334 ≠ 0))) || (decide ((x_349.n : Int) ≠ 0))))] ⟨rfl, rfl, rfl, rfl, rfl, rfl, trivial⟩
      refine then_normal ?_
      refine wp_cond_split (hA355.get rfl) (fun hc => ?_) (fun hc => ?_)
      · have ht356 := ht351.1 ((b_or_t hc).imp (fun h => ((b_or_t h).imp (fun h => ((b_or_t h).imp (fun h => (b_not_t h)) (fun h => h))) (fun h => (of_decide_eq_true h)))) (fun h => (of_decide_eq_true h)))
        clear hc
        refine wp_seq ?_
        refine wp_region_lit ?_
        refine sq (opk_val hA355 rfl (r_assign rfl) fun a358 hA358 _ => ?_)
        refine sq_end ?_
        have hA359 := hA358.keep [(2, .bool false)] ⟨rfl, trivial⟩
        refine then_normal ?_
        refine wp_ret ?_
        refine block_ret ?_
        refine then_ret ?_
        refine then_ret ?_
        refine block_ret ?_
        refine then_ret ?_
        exact res_all (vs := [.bool false]) rfl hA359 ⟨res_of_tmp hA359 rfl, trivial⟩ ht356
      · have ht357 := ht351.2 ⟨⟨⟨(b_not_f (b_or_f (b_or_f (b_or_f hc).1).1).1), (b_or_f (b_or_f (b_or_f hc).1).1).2⟩, (of_decide_eq_false (b_or_f (b_or_f hc).1).2)⟩, (of_decide_eq_false (b_or_f hc).2)⟩
        clear hc
        refine wp_skip ?_
        refine block_normal ?_
        refine then_normal ?_
        refine wp_region_lit ?_
        refine sq (opk_val hA355 rfl (r_move (hA355.get rfl)) fun a360 hA360 _ => ?_)
        obtain ⟨hS362, ht363⟩ := ht357
        refine sq (opk_val hA360 rfl (r_addI (hA360.get rfl) rfl hS362) fun a361 hA361 _ => ?_)
        refine sq (opk_val hA361 rfl (r_assign (hA361.get rfl)) fun a364 hA364 _ => ?_)
        refine sq_end ?_
        have hA365 := hA364.keep [(3, .pointer (some (⟨B_13, 0, none⟩ : Addr))), (4, .pointer (some (⟨B_30, 0, none⟩ : Addr))), (5, Sl.v r_0_70), (7, Sl.v r_0_104), (9, .int .i64 (i_198 + 1))] ⟨rfl, rfl, rfl, rfl, rfl, trivial⟩
        have hA366 := hA365.keep [(3, .pointer (some (⟨B_13, 0, none⟩ : Addr))), (4, .pointer (some (⟨B_30, 0, none⟩ : Addr))), (5, Sl.v r_0_70), (7, Sl.v r_0_104), (9, .int .i64 (i_198 + 1))] ⟨rfl, rfl, rfl, rfl, rfl, trivial⟩
        exact then_normal ⟨(i_198 + 1, w315), ⟨hA366, hB319, hB320, rfl, ht363.1⟩, ht363.2⟩
    · have ht295 := ht287.2 (of_decide_eq_false hc)
      clear hc
      refine wp_exit ?_
      refine then_exit ?_
      refine then_exit ?_
      refine block_hit ?_
      have hA367 := hA293.keep [(3, .pointer (some (⟨B_13, 0, none⟩ : Addr))), (4, .pointer (some (⟨B_30, 0, none⟩ : Addr))), (7, Sl.v r_0_104)] ⟨rfl, rfl, rfl, trivial⟩
      refine then_normal ?_
      refine wp_seq ?_
      refine wp_region_lit ?_
      refine sq (opk_val hA367 rfl (r_loadN (cs := [.int .i64 r_5_Kind, .string (Bs r_5_Name), .string (Bs r_5_Text), Sl.v r_5_Attrs, Sl.v r_5_Kids]) Try.underlying26 rfl ti_26 (hA367.get rfl) (hB283.part 0 _ rfl)) fun a368 hA368 _ => ?_)
      refine sq (opk_call hA368 rfl (r_call (args := #[.agg #[.int .i64 r_5_Kind, .string (Bs r_5_Name), .string (Bs r_5_Text), Sl.v r_5_Attrs, Sl.v r_5_Kids]]) Try.func11 (by decide) rfl (map_arr (ml_cons (hA368.get rfl) ml_nil)) rfl) ht295 fun a370 v376 w371 hA370 _ hn373 hz374 hK375 => ?_)
      obtain ⟨r_369, rfl, ht372⟩ := hK375
      have hB377 := hB283.kept hn373 (.head _)
      have hB378 := hB284.kept hn373 (.tail _ (.head _))
      refine sq (opk_call hA370 rfl (r_call (args := #[Sl.v r_369, .int .i64 0]) Try.func17 (by decide) rfl (map_arr (ml_cons (hA370.get rfl) (ml_cons rfl ml_nil))) rfl) ht372 fun a380 v386 w381 hA380 _ hn383 hz384 hK385 => ?_)
      obtain ⟨r_379, rfl, ht382⟩ := hK385
      have hB387 := hB377.kept hn383 (.head _)
      have hB388 := hB378.kept hn383 (.tail _ (.head _))
      refine sq (opk_val hA380 rfl (r_assign (hA380.get rfl)) fun a389 hA389 _ => ?_)
      refine sq_end ?_
      have hA390 := hA389.keep [(4, .pointer (some (⟨B_30, 0, none⟩ : Addr))), (7, Sl.v r_0_104), (10, Sl.v r_379)] ⟨rfl, rfl, rfl, trivial⟩
      refine then_normal ?_
      refine wp_seq ?_
      refine wp_seq ?_
      refine wp_region_lit ?_
      refine sq (opk_val hA390 rfl (r_move (hA390.get rfl)) fun a391 hA391 _ => ?_)
      obtain ⟨hb393, p_392, hp394, ht395⟩ := ht382
      refine sq (opk_val hA391 rfl (r_indexAddr (hA391.get rfl) rfl Try.underlying33 ti_43 hb393 hp394) fun a396 hA396 _ => ?_)
      refine sq (opk_val hA396 rfl (r_fieldAddr (hA396.get rfl) Try.underlying43 rfl ti_22 (by decide)) fun a397 hA397 _ => ?_)
      obtain ⟨x_399, hx400, ht401⟩ := ht395
      refine sq (opk_val hA397 rfl (r_load1 Try.underlying22 rfl (hA397.get rfl) hx400) fun a398 hA398 _ => ?_)
      refine sq (opk_val hA398 rfl (r_len (hA398.get rfl) Try.underlying22) fun a402 hA402 _ => ?_)
      refine sq (opk_val hA402 rfl (r_move (hA402.get rfl)) fun a403 hA403 _ => ?_)
      refine sq (opk_val hA403 rfl (r_len (hA403.get rfl) Try.underlying22) fun a404 hA404 _ => ?_)
      refine sq (opk_val hA404 rfl (r_neq (hA404.get rfl) (hA404.get rfl)) fun a405 hA405 _ => ?_)
      refine sq (opk_val hA405 rfl (r_move (hA405.get rfl)) fun a406 hA406 _ => ?_)
      refine sq (opk_gval hA406 rfl rfl (g := true) (e := (decide ((x_399.n : Int) ≠ (r_379.n : Int)))) rfl (fun hg => r_move (hA406.get rfl)) fun a407 hA407 _ => ?_)
      obtain ⟨p_408, hp410, ht411⟩ := ht401
      refine sq (opk_gval hA407 rfl rfl (g := true) (e := (decide ((x_399.n : Int) ≠ (r_379.n : Int)))) rfl (fun hg => r_indexAddr (cv_get (hA407.get rfl) hg) rfl Try.underlying33 ti_43 (hp410 (of_decide_eq_false (g_f hg))).1 (hp410 (of_decide_eq_false (g_f hg))).2) fun a412 hA412 _ => ?_)
      refine sq (opk_gval hA412 rfl rfl (g := true) (e := (decide ((x_399.n : Int) ≠ (r_379.n : Int)))) rfl (fun hg => r_fieldAddr (cv_get (hA412.get rfl) hg) Try.underlying43 rfl ti_3 (by decide)) fun a413 hA413 _ => ?_)
      obtain ⟨x_415, hx416, ht417⟩ := ht411
      refine sq (opk_gval hA413 rfl rfl (g := true) (e := (decide ((x_399.n : Int) ≠ (r_379.n : Int)))) rfl (fun hg => r_load1 Try.underlying3 rfl (cv_get (hA413.get rfl) hg) (hx416 (of_decide_eq_false (g_f hg)))) fun a414 hA414 _ => ?_)
      refine sq (opk_gval hA414 rfl rfl (g := true) (e := (decide ((x_399.n : Int) ≠ (r_379.n : Int)))) rfl (fun hg => r_neq (cv_get (hA414.get rfl) hg) rfl) fun a418 hA418 _ => ?_)
      refine sq (opk_val hA418 rfl (r_pick_or (g := (true && ((decide ((x_399.n : Int) ≠ (r_379.n : Int))) == false))) (hA418.get rfl) (hA418.get rfl) (fun he => g_mkf rfl he)) fun a419 hA419 _ => ?_)
      refine sq (opk_val hA419 rfl (r_move (hA419.get rfl)) fun a420 hA420 _ => ?_)
      refine sq (opk_gval hA420 rfl rfl (g := true) (e := ((decide ((x_399.n : Int) ≠ (r_379.n : Int))) || (decide (x_415 ≠ (-1))))) rfl (fun hg => r_move (hA420.get rfl)) fun a421 hA421 _ => ?_)
      obtain ⟨p_422, hp424, ht425⟩ := ht417
      refine sq (opk_gval hA421 rfl rfl (g := true) (e := ((decide ((x_399.n : Int) ≠ (r_379.n : Int))) || (decide (x_415 ≠ (-1))))) rfl (fun hg => r_indexAddr (cv_get (hA421.get rfl) hg) rfl Try.underlying33 ti_43 (hp424 ⟨(of_decide_eq_false (b_or_f (g_f hg)).1), (of_decide_eq_false (b_or_f (g_f hg)).2)⟩).1 (hp424 ⟨(of_decide_eq_false (b_or_f (g_f hg)).1), (of_decide_eq_false (b_or_f (g_f hg)).2)⟩).2) fun a426 hA426 _ => ?_)
      refine sq (opk_gval hA426 rfl rfl (g := true) (e := ((decide ((x_399.n : Int) ≠ (r_379.n : Int))) || (decide (x_415 ≠ (-1))))) rfl (fun hg => r_fieldAddr (cv_get (hA426.get rfl) hg) Try.underlying43 rfl ti_4 (by decide)) fun a427 hA427 _ => ?_)
      obtain ⟨x_429, hx430, ht431⟩ := ht425
      refine sq (opk_gval hA427 rfl rfl (g := true) (e := ((decide ((x_399.n : Int) ≠ (r_379.n : Int))) || (decide (x_415 ≠ (-1))))) rfl (fun hg => r_load1 Try.underlying4 rfl (cv_get (hA427.get rfl) hg) (hx430 ⟨(of_decide_eq_false (b_or_f (g_f hg)).1), (of_decide_eq_false (b_or_f (g_f hg)).2)⟩)) fun a428 hA428 _ => ?_)
      refine sq (opk_val hA428 rfl (r_pick_or (g := (true && (((decide ((x_399.n : Int) ≠ (r_379.n : Int))) || (decide (x_415 ≠ (-1)))) == false))) (hA428.get rfl) (hA428.get rfl) (fun he => g_mkf rfl he)) fun a432 hA432 _ => ?_)
      refine sq_end ?_
      have hA433 := hA432.keep [(4, .pointer (some (⟨B_30, 0, none⟩ : Addr))), (7, Sl.v r_0_104), (10, Sl.v r_379), (127, .bool (((decide ((x_399.n : Int) ≠ (r_379.n : Int))) || (decide (x_415 ≠ (-1)))) || x_429))] ⟨rfl, rfl, rfl, rfl, trivial⟩
      refine then_normal ?_
      refine wp_cond_split (hA433.get rfl) (fun hc => ?_) (fun hc => ?_)
      · have ht434 := ht431.1 ((b_or_t hc).imp (fun h => ((b_or_t h).imp (fun h => (of_decide_eq_true h)) (fun h => (of_decide_eq_true h)))) (fun h => h))
        clear hc
        refine wp_seq ?_
        refine wp_region_lit ?_
        refine sq (opk_val hA433 rfl (r_assign rfl) fun a436 hA436 _ => ?_)
        refine sq_end ?_
        have hA437 := hA436.keep [(2, .bool false)] ⟨rfl, trivial⟩
        refine then_normal ?_
        refine wp_ret ?_
        refine then_ret ?_
        exact res_all (vs := [.bool false]) rfl hA437 ⟨res_of_tmp hA437 rfl, trivial⟩ ht434
      · have ht435 := ht431.2 ⟨⟨(of_decide_eq_false (b_or_f (b_or_f hc).1).1), (of_decide_eq_false (b_or_f (b_or_f hc).1).2)⟩, (b_or_f hc).2⟩
        clear hc
        refine wp_skip ?_
        refine then_normal ?_
        refine wp_seq ?_
        refine wp_seq ?_
        refine wp_region_lit ?_
        refine sq (opk_val hA433 rfl (r_assign rfl) fun a438 hA438 _ => ?_)
        refine sq_end ?_
        have hA439 := hA438.keep [(4, .pointer (some (⟨B_30, 0, none⟩ : Addr))), (7, Sl.v r_0_104), (10, Sl.v r_379), (11, .int .i64 0)] ⟨rfl, rfl, rfl, rfl, trivial⟩
        refine then_normal ?_
        refine wp_block ?_
        obtain ⟨J_442, mu_443, h0514, ht513⟩ := ht435
        refine wp_loop_st (σ := Int × World) (fun s a w => Ag 153 a [(4, .pointer (some (⟨B_30, 0, none⟩ : Addr))), (7, Sl.v r_0_104), (10, Sl.v r_379), (11, .int .i64 s.1)] ∧ Box w B_30 26 [.int .i64 1, .string (Bs ([] : Str)), .string (Bs ([] : Str)), Sl.v Sl.nil, Sl.v Sl.nil] ∧ w = s.2 ∧ J_442 s.1 s.2) (fun s => mu_443 s.1 s.2) (0, w381) ⟨hA439.keep [(4, .pointer (some (⟨B_30, 0, none⟩ : Addr))), (7, Sl.v r_0_104), (10, Sl.v r_379), (11, .int .i64 0)] ⟨rfl, rfl, rfl, rfl, trivial⟩, hB388, rfl, h0514⟩ ?_
        rintro ⟨i_440, w441⟩ a511 w_ ⟨hA511, hB512, hw_, hJ516⟩
        have hw_ : w441 = w_ := hw_.symm
        subst hw_
        have ht515 := ht513 i_440 _ hJ516
        refine wp_seq ?_
        refine wp_seq ?_
        refine wp_region_lit ?_
        refine sq (opk_val hA511 rfl (r_move (hA511.get rfl)) fun a517 hA517 _ => ?_)
        refine sq (opk_val hA517 rfl (r_move (hA517.get rfl)) fun a518 hA518 _ => ?_)
        refine sq (opk_val hA518 rfl (r_len (hA518.get rfl) Try.underlying22) fun a519 hA519 _ => ?_)
        refine sq (opk_val hA519 rfl (r_lss (hA519.get rfl) (hA519.get rfl)) fun a520 hA520 _ => ?_)
        refine sq_end ?_
        have hA521 := hA520.keep [(4, .pointer (some (⟨B_30, 0, none⟩ : Addr))), (7, Sl.v r_0_104), (10, Sl.v r_379), (11, .int .i64 i_440), (131, .bool (decide (i_440 < (r_379.n : Int))))] ⟨rfl, rfl, rfl, rfl, rfl, trivial⟩
        refine then_normal ?_
        refine wp_cond_split (hA521.get rfl) (fun hc => ?_) (fun hc => ?_)
        · have ht522 := ht515.1 (of_decide_eq_true hc)
          clear hc
          refine wp_skip ?_
          refine then_normal ?_
          refine wp_seq ?_
          refine wp_block ?_
          refine wp_seq ?_
          refine draw' (by kernel_rfl) fun w524 hE525 => ?_
          have hB526 := hB512.ext hE525
          have hC527 : Chg [] w441 w524 := hE525
          have ht528 := ht522 w524    hC527
          obtain ⟨p_530, hp531, ht532⟩ := ht528
          obtain ⟨x_535, hx536, ht537⟩ := ht532
          obtain ⟨p_540, hp541, ht542⟩ := ht537
          obtain ⟨x_544, hx545, ht546⟩ := ht542
          obtain ⟨p_549, hp550, ht551⟩ := ht546
          obtain ⟨x_553, hx554, ht555⟩ := ht551
          obtain ⟨hS557, ht558⟩ := ht555
          refine par (D := [[], [0], [0, 1], [0, 1, 2], [], [0, 1, 2, 3, 4], [0, 1, 2, 3, 4, 5], [], [], [7, 8], [7, 8, 9], [7, 8, 9, 10], [0, 1, 2, 3, 4, 5, 6, 7, 8, 9, 10, 11]]) (S := [0, 1, 2, 3, 4, 5, 6, 7, 8, 9, 10, 11, 12]) (F := []) (V := VL [(0, fun v _ => v = Sl.v r_0_104), (1, fun v _ => v = .pointer (some (p_530.add (0 * 6)))), (2, fun v _ => v = .pointer (some ((p_530.add (0 * 6)).add 5))), (3, fun v _ => v = Sl.v x_535), (4, fun v _ => v = .int .i64 i_440), (5, fun v _ => v = .pointer (some (p_540.add (i_440.toNat * 1)))), (6, fun v _ => v = .int .i64 x_544), (7, fun v _ => v = Sl.v r_379), (8, fun v _ => v = .int .i64 i_440), (9, fun v _ => v = .pointer (some (p_549.add (i_440.toNat * 1)))), (10, fun v _ => v = .int .i64 x_553), (11, fun v _ => v = .int .i64 ((-2) - x_553)), (12, fun v _ => v = .bool (decide (x_544 ≠ ((-2) - x_553))))]) hA521 (by kernel_rfl) ⟨fun _ _ _ _ h => by first | exact h | (change _ = _ at h; change _ = _; exact h), fun _ _ _ _ h => by first | exact h | (change _ = _ at h; change _ = _; exact h), fun _ _ _ _ h => by first | exact h | (change _ = _ at h; change _ = _; exact h), fun _ _ _ _ h => by first | exact h | (change _ = _ at h; change _ = _; exact h), fun _ _ _ _ h => by first | exact h | (change _ = _ at h; change _ = _; exact h), fun _ _ _ _ h => by first | exact h | (change _ = _ at h; change _ = _; exact h), fun _ _ _ _ h => by first | exact h | (change _ = _ at h; change _ = _; exact h), fun _ _ _ _ h => by first | exact h | (change _ = _ at h; change _ = _; exact h), fun _ _ _ _ h => by first | exact h | (change _ = _ at h; change _ = _; exact h), fun _ _ _ _ h => by first | exact h | (change _ = _ at h; change _ = _; exact h), fun _ _ _ _ h => by first | exact h | (change _ = _ at h; change _ = _; exact h), fun _ _ _ _ h => by first | exact h | (change _ = _ at h; change _ = _; exact h), fun _ _ _ _ h => by first | exact h | (change _ = _ at h; change _ = _; exact h), trivial⟩ ⟨?_, ?_, ?_, ?_, ?_, ?_, ?_, ?_, ?_, ?_, ?_, ?_, ?_, trivial⟩ ?_
          · intro a w hT
            have hAp := hT.ag hA521 [(7, Sl.v r_0_104)] ⟨rfl, trivial⟩ (by kernel_rfl)
            exact opk_val hAp rfl (r_move (hAp.get rfl)) fun _ _ e => ⟨_, e, Chg.refl _ _, fun _ => Eq.refl _⟩
          · intro a w hT
            have hAp := hT.ag hA521 [] trivial (by kernel_rfl)
            have e529 : a.tmps.getD 134 undef = Sl.v r_0_104 := hT.vals 0 rfl 134 rfl
            have hAp := hAp.add e529
            exact opk_val hAp rfl (r_indexAddr (hAp.get rfl) rfl Try.underlying33 ti_43 hp531.1 hp531.2) fun _ _ e => ⟨_, e, Chg.refl _ _, fun _ => Eq.refl _⟩
          · intro a w hT
            have hAp := hT.ag hA521 [] trivial (by kernel_rfl)
            have e533 : a.tmps.getD 135 undef = .pointer (some (p_530.add (0 * 6))) := hT.vals 1 rfl 135 rfl
            have hAp := hAp.add e533
            exact opk_val hAp rfl (r_fieldAddr (hAp.get rfl) Try.underlying43 rfl ti_22 (by decide)) fun _ _ e => ⟨_, e, Chg.refl _ _, fun _ => Eq.refl _⟩
          · intro a w hT
            have hAp := hT.ag hA521 [] trivial (by kernel_rfl)
            have e534 : a.tmps.getD 136 undef = .pointer (some ((p_530.add (0 * 6)).add 5)) := hT.vals 2 rfl 136 rfl
            have hAp := hAp.add e534
            exact opk_val hAp rfl (r_load1 Try.underlying22 rfl (hAp.get rfl) (Ext.cell hT.chg hx536)) fun _ _ e => ⟨_, e, Chg.refl _ _, fun _ => Eq.refl _⟩
          · intro a w hT
            have hAp := hT.ag hA521 [(11, .int .i64 i_440)] ⟨rfl, trivial⟩ (by kernel_rfl)
            exact opk_val hAp rfl (r_move (hAp.get rfl)) fun _ _ e => ⟨_, e, Chg.refl _ _, fun _ => Eq.refl _⟩
          · intro a w hT
            have hAp := hT.ag hA521 [] trivial (by kernel_rfl)
            have e538 : a.tmps.getD 137 undef = Sl.v x_535 := hT.vals 3 rfl 137 rfl
            have hAp := hAp.add e538
            have e539 : a.tmps.getD 138 undef = .int .i64 i_440 := hT.vals 4 rfl 138 rfl
            have hAp := hAp.add e539
            exact opk_val hAp rfl (r_indexAddr (hAp.get rfl) (hAp.get rfl) Try.underlying22 ti_3 hp541.1 hp541.2) fun _ _ e => ⟨_, e, Chg.refl _ _, fun _ => Eq.refl _⟩
          · intro a w hT
            have hAp := hT.ag hA521 [] trivial (by kernel_rfl)
            have e543 : a.tmps.getD 139 undef = .pointer (some (p_540.add (i_440.toNat * 1))) := hT.vals 5 rfl 139 rfl
            have hAp := hAp.add e543
            exact opk_val hAp rfl (r_load1 Try.underlying3 rfl (hAp.get rfl) (Ext.cell hT.chg hx545)) fun _ _ e => ⟨_, e, Chg.refl _ _, fun _ => Eq.refl _⟩
          · intro a w hT
            have hAp := hT.ag hA521 [(10, Sl.v r_379)] ⟨rfl, trivial⟩ (by kernel_rfl)
            exact opk_val hAp rfl (r_move (hAp.get rfl)) fun _ _ e => ⟨_, e, Chg.refl _ _, fun _ => Eq.refl _⟩
          · intro a w hT
            have hAp := hT.ag hA521 [(11, .int .i64 i_440)] ⟨rfl, trivial⟩ (by kernel_rfl)
            exact opk_val hAp rfl (r_move (hAp.get rfl)) fun _ _ e => ⟨_, e, Chg.refl _ _, fun _ => Eq.refl _⟩
          · intro a w hT
            have hAp := hT.ag hA521 [] trivial (by kernel_rfl)
            have e547 : a.tmps.getD 141 undef = Sl.v r_379 := hT.vals 7 rfl 141 rfl
            have hAp := hAp.add e547
            have e548 : a.tmps.getD 142 undef = .int .i64 i_440 := hT.vals 8 rfl 142 rfl
            have hAp := hAp.add e548
            exact opk_val hAp rfl (r_indexAddr (hAp.get rfl) (hAp.get rfl) Try.underlying22 ti_3 hp550.1 hp550.2) fun _ _ e => ⟨_, e, Chg.refl _ _, fun _ => Eq.refl _⟩
          · intro a w hT
            have hAp := hT.ag hA521 [] trivial (by kernel_rfl)
            have e552 : a.tmps.getD 143 undef = .pointer (some (p_549.add (i_440.toNat * 1))) := hT.vals 9 rfl 143 rfl
            have hAp := hAp.add e552
            exact opk_val hAp rfl (r_load1 Try.underlying3 rfl (hAp.get rfl) (Ext.cell hT.chg hx554)) fun _ _ e => ⟨_, e, Chg.refl _ _, fun _ => Eq.refl _⟩
          · intro a w hT
            have hAp := hT.ag hA521 [] trivial (by kernel_rfl)
            have e556 : a.tmps.getD 144 undef = .int .i64 x_553 := hT.vals 10 rfl 144 rfl
            have hAp := hAp.add e556
            exact opk_val hAp rfl (r_subI rfl (hAp.get rfl) hS557) fun _ _ e => ⟨_, e, Chg.refl _ _, fun _ => Eq.refl _⟩
          · intro a w hT
            have hAp := hT.ag hA521 [] trivial (by kernel_rfl)
            have e559 : a.tmps.getD 140 undef = .int .i64 x_544 := hT.vals 6 rfl 140 rfl
            have hAp := hAp.add e559
            have e560 : a.tmps.getD 145 undef = .int .i64 ((-2) - x_553) := hT.vals 11 rfl 145 rfl
            have hAp := hAp.add e560
            exact opk_val hAp rfl (r_neq (hAp.get rfl) (hAp.get rfl)) fun _ _ e => ⟨_, e, Chg.refl _ _, fun _ => Eq.refl _⟩
          · intro a561 w562 hE563 hag564 hv565
            have hA561 := hag564 [(4, .pointer (some (⟨B_30, 0, none⟩ : Addr))), (7, Sl.v r_0_104), (10, Sl.v r_379), (11, .int .i64 i_440)] ⟨rfl, rfl, rfl, rfl, trivial⟩ (by kernel_rfl)
            have e567 : a561.tmps.getD 146 undef = .bool (decide (x_544 ≠ ((-2) - x_553))) := hv565 12 rfl 146 rfl
            have hA568 := hA561.add e567
            have hB569 := hB526.ext hE563
            have hC570 : Chg [] w524 w562 := hE563
            refine PR_end (by kernel_rfl) ?_
            have hA571 := hA568.keep [(4, .pointer (some (⟨B_30, 0, none⟩ : Addr))), (7, Sl.v r_0_104), (10, Sl.v r_379), (11, .int .i64 i_440), (146, .bool (decide (x_544 ≠ ((-2) - x_553))))] ⟨rfl, rfl, rfl, rfl, rfl, trivial⟩
            refine then_normal ?_
            refine wp_cond_split (hA571.get rfl) (fun hc => ?_) (fun hc => ?_)
            · have ht572 := ht558.1 (of_decide_eq_true hc)
              clear hc
              refine wp_seq ?_
              refine wp_region_lit ?_
              refine sq (opk_val hA571 rfl (r_assign rfl) fun a574 hA574 _ => ?_)
              refine sq_end ?_
              have hA575 := hA574.keep [(2, .bool false)] ⟨rfl, trivial⟩
              refine then_normal ?_
              refine wp_ret ?_
              refine block_ret ?_
              refine then_ret ?_
              refine then_ret ?_
              refine block_ret ?_
              refine then_ret ?_
              have ht576 := ht572 w562    hC570
              exact res_all (vs := [.bool false]) rfl hA575 ⟨res_of_tmp hA575 rfl, trivial⟩ ht576
            · have ht573 := ht558.2 (of_decide_eq_false hc)
              clear hc
              refine wp_skip ?_
              refine block_normal ?_
              refine then_normal ?_
              refine wp_region_lit ?_
              refine sq (opk_val hA571 rfl (r_move (hA571.get rfl)) fun a577 hA577 _ => ?_)
              obtain ⟨hS579, ht580⟩ := ht573
              refine sq (opk_val hA577 rfl (r_addI (hA577.get rfl) rfl hS579) fun a578 hA578 _ => ?_)
              refine sq (opk_val hA578 rfl (r_assign (hA578.get rfl)) fun a581 hA581 _ => ?_)
              refine sq_end ?_
              have hA582 := hA581.keep [(4, .pointer (some (⟨B_30, 0, none⟩ : Addr))), (7, Sl.v r_0_104), (10, Sl.v r_379), (11, .int .i64 (i_440 + 1))] ⟨rfl, rfl, rfl, rfl, trivial⟩
              have ht583 := ht580 w562    hC570
              have hA584 := hA582.keep [(4, .pointer (some (⟨B_30, 0, none⟩ : Addr))), (7, Sl.v r_0_104), (10, Sl.v r_379), (11, .int .i64 (i_440 + 1))] ⟨rfl, rfl, rfl, rfl, trivial⟩
              exact then_normal ⟨(i_440 + 1, w562), ⟨hA584, hB569, rfl, ht583.1⟩, ht583.2⟩
        · have ht523 := ht515.2 (of_decide_eq_false hc)
          clear hc
          refine wp_exit ?_
          refine then_exit ?_
          refine then_exit ?_
          refine block_hit ?_
          have hA585 := hA521.keep [(4, .pointer (some (⟨B_30, 0, none⟩ : Addr))), (7, Sl.v r_0_104)] ⟨rfl, rfl, trivial⟩
          refine then_normal ?_
          refine wp_seq ?_
          refine wp_region_lit ?_
          refine sq (opk_val hA585 rfl (r_loadN (cs := [.int .i64 1, .string (Bs ([] : Str)), .string (Bs ([] : Str)), Sl.v Sl.nil, Sl.v Sl.nil]) Try.underlying26 rfl ti_26 (hA585.get rfl) (hB512.part 0 _ rfl)) fun a586 hA586 _ => ?_)
          refine sq (opk_val hA586 rfl (r_move (hA586.get rfl)) fun a587 hA587 _ => ?_)
          refine sq (opk_call hA587 rfl (r_call (args := #[.agg #[.int .i64 1, .string (Bs ([] : Str)), .string (Bs ([] : Str)), Sl.v Sl.nil, Sl.v Sl.nil], Sl.v r_0_104, .int .i64 0]) Try.func16 (by decide) rfl (map_arr (ml_cons (hA587.get rfl) (ml_cons (hA587.get rfl) (ml_cons rfl ml_nil)))) rfl) ht523 fun a589 v595 w590 hA589 _ hn592 hz593 hK594 => ?_)
          obtain ⟨r_588, rfl, ht591⟩ := hK594
          have hB596 := hB512.kept hn592 (.head _)
          refine sq (opk_val hA589 rfl (r_move (hA589.get rfl)) fun a597 hA597 _ => ?_)
          obtain ⟨r_598, hc602, ht601⟩ := ht591
          refine sq (opk_gcall hA597 rfl rfl (g := true) (e := r_588) rfl (fun hg => r_call (args := #[]) Try.func14 (by decide) rfl (map_arr ml_nil) rfl) (fun hg => hc602 (g_t hg)) fun a599 w600 hA599 _ hE603 => ?_)
          have hB604 := hB596.ext hE603
          have hC605 : Chg [] w590 w600 := hE603
          have ht606 := ht601 w600 hE603
          refine sq (opk_val hA599 rfl (r_pick_and (g := (true && (r_588 == true))) (hA599.get rfl) (hA599.get rfl) (fun he => g_mkt rfl he)) fun a607 hA607 _ => ?_)
          refine sq (opk_val hA607 rfl (r_assign (hA607.get rfl)) fun a608 hA608 _ => ?_)
          refine sq_end ?_
          have hA609 := hA608.keep [(2, .bool (r_588 && r_598))] ⟨rfl, trivial⟩
          refine then_normal ?_
          refine wp_ret ?_
          exact res_all (vs := [.bool (r_588 && r_598)]) rfl hA609 ⟨res_of_tmp hA609 rfl, trivial⟩ ht606

end Go.Proofs.Yteohbfaechfliaa
