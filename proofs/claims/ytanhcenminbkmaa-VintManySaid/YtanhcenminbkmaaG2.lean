/-
  PRINTED BY PROGRAM: for each function its condition (vc), and that this suffices (ok).
-/
import Derived.Test.YtanhcenminbkmaaGT
namespace Go.Proofs.Ytanhcenminbkmaa
open Go.RowKit
set_option linter.unusedVariables false

/-- The condition of topiary/topiarylaw03.VintAll. -/
def law03_VintAll.vc (b_1 : Sl) (v_2 : Int) (s_3 : Str) (at_4 : Int) (most_5 : Int) (R : Value → World → Prop) (w : World) : Prop :=
((3000 < (s_3.length : Int)) →
CallK Try.prog 19 #[] w [] (fun v w16 => ∃ (r_14 : Bool), v = .bool r_14 ∧
R (.bool r_14) w16)) ∧
((¬ (3000 < (s_3.length : Int))) →
RunK Try.prog (Builtin.append_ #[23, 23] 23 #[Sl.v Sl.nil, Sl.v b_1]) w [] (fun v w26 => ∃ (r_32 : Sl), v = Sl.v r_32 ∧
∀ (w34 : World) (B_33 : Nat), New w26 B_33 w34 → Chg [] w26 w34 →
Box w34 B_33 5 [.int .u8 99] →
RunK Try.prog (Builtin.append_ #[23, 23] 23 #[Sl.v r_32, Sl.v ⟨some ⟨B_33, 0, none⟩, 1, 1⟩]) w34 [] (fun v w44 => ∃ (r_50 : Sl), v = Sl.v r_50 ∧
((0 : Int) ≤ (b_1.n : Int) ∧ (b_1.n : Int) ≤ (r_50.c : Int)) ∧
∀ (w58 : World), Chg [] w44 w58 →
∃ V_65 : Sl → World → Prop, (∀ r_64 : Sl, ∀ w' w'' : World, Ext w' w'' → V_65 r_64 w' → V_65 r_64 w'') ∧
(∀ w' : World, Ext w58 w' → Calls Try.prog 17 #[Sl.v (Sl.cut r_50 1 0 (b_1.n : Int).toNat r_50.c), .int .u64 v_2] w' (Ret fun v w'' => Ext w' w'' ∧ ∃ r_64 : Sl, v = Sl.v r_64 ∧ V_65 r_64 w'')) ∧
∃ s_71 : Str, (∀ r_64 : Sl, ∀ w' : World, Ext w58 w' → V_65 r_64 w' → (convert 23 9 (Sl.v r_64)).run Try.prog w' = .ok (.string (Bs s_71)) w') ∧
∃ s_75 : Str, (∀ w' : World, Ext w58 w' → (convert 23 9 (Sl.v b_1)).run Try.prog w' = .ok (.string (Bs s_75)) w') ∧
∃ V_80 : Sl → World → Prop, (∀ r_79 : Sl, ∀ w' w'' : World, Ext w' w'' → V_80 r_79 w' → V_80 r_79 w'') ∧
(∀ w' : World, Ext w58 w' → Calls Try.prog 20 #[.int .u64 v_2] w' (Ret fun v w'' => Ext w' w'' ∧ ∃ r_79 : Sl, v = Sl.v r_79 ∧ V_80 r_79 w'')) ∧
∃ s_86 : Str, (∀ r_79 : Sl, ∀ w' : World, Ext w58 w' → V_80 r_79 w' → (convert 23 9 (Sl.v r_79)).run Try.prog w' = .ok (.string (Bs s_86)) w') ∧
(List.length s_75 + List.length s_86 ≤ 9223372036854775807) ∧
∃ V_102 : Sl → World → Prop, (∀ r_101 : Sl, ∀ w' w'' : World, Ext w' w'' → V_102 r_101 w' → V_102 r_101 w'') ∧
(((¬ (s_71 ≠ (s_75 ++ s_86)))) → ∀ w' : World, Ext w58 w' → Calls Try.prog 21 #[Sl.v (Sl.cut r_50 1 0 (b_1.n : Int).toNat r_50.c), .string (Bs s_3)] w' (Ret fun v w'' => Ext w' w'' ∧ ∃ r_101 : Sl, v = Sl.v r_101 ∧ V_102 r_101 w'')) ∧
∃ s_109 : Str, (((¬ (s_71 ≠ (s_75 ++ s_86)))) → ∀ r_101 : Sl, ∀ w' : World, Ext w58 w' → (((¬ (s_71 ≠ (s_75 ++ s_86)))) → V_102 r_101 w') → (convert 23 9 (Sl.v r_101)).run Try.prog w' = .ok (.string (Bs s_109)) w') ∧
∃ s_115 : Str, (((¬ (s_71 ≠ (s_75 ++ s_86)))) → ∀ w' : World, Ext w58 w' → (convert 23 9 (Sl.v b_1)).run Try.prog w' = .ok (.string (Bs s_115)) w') ∧
∃ V_126 : Sl → World → Prop, (∀ r_125 : Sl, ∀ w' w'' : World, Ext w' w'' → V_126 r_125 w' → V_126 r_125 w'') ∧
(((¬ (s_71 ≠ (s_75 ++ s_86)))) → ∀ w' : World, Ext w58 w' → Calls Try.prog 20 #[.int .u64 (IntKind.u64.wrap (s_3.length : Int))] w' (Ret fun v w'' => Ext w' w'' ∧ ∃ r_125 : Sl, v = Sl.v r_125 ∧ V_126 r_125 w'')) ∧
∃ s_133 : Str, (((¬ (s_71 ≠ (s_75 ++ s_86)))) → ∀ r_125 : Sl, ∀ w' : World, Ext w58 w' → (((¬ (s_71 ≠ (s_75 ++ s_86)))) → V_126 r_125 w') → (convert 23 9 (Sl.v r_125)).run Try.prog w' = .ok (.string (Bs s_133)) w') ∧
(((¬ (s_71 ≠ (s_75 ++ s_86)))) → List.length s_115 + List.length s_133 ≤ 9223372036854775807) ∧
(((¬ (s_71 ≠ (s_75 ++ s_86)))) → List.length (s_115 ++ s_133) + List.length s_3 ≤ 9223372036854775807) ∧
(((s_71 ≠ (s_75 ++ s_86)) ∨ (s_109 ≠ ((s_115 ++ s_133) ++ s_3))) →
∀ (w153 : World), Chg [] w58 w153 →
R (.bool false) w153) ∧
(((¬ (s_71 ≠ (s_75 ++ s_86))) ∧ (¬ (s_109 ≠ ((s_115 ++ s_133) ++ s_3)))) →
∀ (w153 : World), Chg [] w58 w153 →
CallK Try.prog 18 #[Sl.v (Sl.cut r_50 1 0 (b_1.n : Int).toNat r_50.c), .int .i64 at_4] w153 [] (fun v w173 => ∃ (r_0_169 : Int) (r_1_170 : Int) (r_2_171 : Int), v = .tuple #[.int .u64 r_0_169, .int .i64 r_1_170, .int .i64 r_2_171] ∧
CallK Try.prog 22 #[Sl.v b_1, .int .i64 at_4] w173 [] (fun v w193 => ∃ (r_0_189 : Int) (r_1_190 : Int) (r_2_191 : Int), v = .tuple #[.int .u64 r_0_189, .int .i64 r_1_190, .int .i64 r_2_191] ∧
CallK Try.prog 23 #[Sl.v (Sl.cut r_50 1 0 (b_1.n : Int).toNat r_50.c), .int .i64 at_4, .int .i64 most_5] w193 [] (fun v w214 => ∃ (r_0_210 : Str) (r_1_211 : Int) (r_2_212 : Int), v = .tuple #[.string (Bs r_0_210), .int .i64 r_1_211, .int .i64 r_2_212] ∧
CallK Try.prog 24 #[Sl.v b_1, .int .i64 at_4, .int .i64 most_5] w214 [] (fun v w235 => ∃ (r_0_231 : Str) (r_1_232 : Int) (r_2_233 : Int), v = .tuple #[.string (Bs r_0_231), .int .i64 r_1_232, .int .i64 r_2_233] ∧
((((((((r_0_169 = r_0_189) ∧ (r_1_170 = r_1_190)) ∧ (r_2_171 = r_2_191)) ∧ (r_0_210 = r_0_231)) ∧ (r_1_211 = r_1_232)) ∧ (r_2_212 = r_2_233))) → I64 ((b_1.n : Int) + 1)) ∧
((((((((r_0_169 = r_0_189) ∧ (r_1_170 = r_1_190)) ∧ (r_2_171 = r_2_191)) ∧ (r_0_210 = r_0_231)) ∧ (r_1_211 = r_1_232)) ∧ (r_2_212 = r_2_233))) → (0 : Int) ≤ (b_1.n : Int) + 1 ∧ (b_1.n : Int) + 1 ≤ ((Sl.cut r_50 1 0 (b_1.n : Int).toNat r_50.c).c : Int)) ∧
∃ p_289 : Addr, ((((((((r_0_169 = r_0_189) ∧ (r_1_170 = r_1_190)) ∧ (r_2_171 = r_2_191)) ∧ (r_0_210 = r_0_231)) ∧ (r_1_211 = r_1_232)) ∧ (r_2_212 = r_2_233))) → ((0 : Int) ≤ (b_1.n : Int) ∧ (b_1.n : Int) < ((Sl.cut (Sl.cut r_50 1 0 (b_1.n : Int).toNat r_50.c) 1 0 ((b_1.n : Int) + 1).toNat (Sl.cut r_50 1 0 (b_1.n : Int).toNat r_50.c).c).n : Int)) ∧  (Sl.cut (Sl.cut r_50 1 0 (b_1.n : Int).toNat r_50.c) 1 0 ((b_1.n : Int) + 1).toNat (Sl.cut r_50 1 0 (b_1.n : Int).toNat r_50.c).c).a = some p_289) ∧
∃ (x_295 : Int), ((((((((r_0_169 = r_0_189) ∧ (r_1_170 = r_1_190)) ∧ (r_2_171 = r_2_191)) ∧ (r_0_210 = r_0_231)) ∧ (r_1_211 = r_1_232)) ∧ (r_2_212 = r_2_233))) → w235.cell? (p_289.add ((b_1.n : Int).toNat * 1)) = some (.int .u8 x_295)) ∧
∃ (r_301 : Bool), (((((((((r_0_169 = r_0_189) ∧ (r_1_170 = r_1_190)) ∧ (r_2_171 = r_2_191)) ∧ (r_0_210 = r_0_231)) ∧ (r_1_211 = r_1_232)) ∧ (r_2_212 = r_2_233)) ∧ (x_295 = 99))) → Calls Try.prog 19 #[] w235 (Ret fun v w' => Ext w235 w' ∧ v = .bool r_301)) ∧
(∀ w303 : World, Ext w235 w303 →
R (.bool ((((((((decide (r_0_169 = r_0_189)) && (decide (r_1_170 = r_1_190))) && (decide (r_2_171 = r_2_191))) && (decide (r_0_210 = r_0_231))) && (decide (r_1_211 = r_1_232))) && (decide (r_2_212 = r_2_233))) && (decide (x_295 = 99))) && r_301)) w303)))))))))
set_option maxHeartbeats 1000000 in
set_option maxRecDepth 10000 in
theorem law03_VintAll.ok (b_1 : Sl) (v_2 : Int) (s_3 : Str) (at_4 : Int) (most_5 : Int) {R : Value → World → Prop} {w : World} (ht0 : law03_VintAll.vc b_1 v_2 s_3 at_4 most_5 R w) : Calls Try.prog 9 #[Sl.v b_1, .int .u64 v_2, .string (Bs s_3), .int .i64 at_4, .int .i64 most_5] w (Ret R) := by
  refine enter [Sl.v b_1, .int .u64 v_2, .string (Bs s_3), .int .i64 at_4, .int .i64 most_5] Try.func9 rfl Try.ntmps9 rfl ?_
  intro a0 hA0
  unfold law03_VintAll.vc at ht0
  refine wp_seq ?_
  refine wp_region_lit ?_
  refine sq (opk_val hA0 rfl (r_assign rfl) fun a6 hA6 _ => ?_)
  refine sq_end ?_
  have hA7 := hA6.keep [(0, Sl.v b_1), (1, .int .u64 v_2), (2, .string (Bs s_3)), (3, .int .i64 at_4), (4, .int .i64 most_5)] ⟨rfl, rfl, rfl, rfl, rfl, trivial⟩
  refine then_normal ?_
  refine wp_seq ?_
  refine wp_seq ?_
  refine wp_region_lit ?_
  refine sq (opk_val hA7 rfl (r_move (hA7.get rfl)) fun a8 hA8 _ => ?_)
  refine sq (opk_val hA8 rfl (r_slen (hA8.get rfl) Try.underlying9) fun a9 hA9 _ => ?_)
  refine sq (opk_val hA9 rfl (r_gtr (hA9.get rfl) rfl) fun a10 hA10 _ => ?_)
  refine sq_end ?_
  have hA11 := hA10.keep [(0, Sl.v b_1), (1, .int .u64 v_2), (2, .string (Bs s_3)), (3, .int .i64 at_4), (4, .int .i64 most_5), (26, .bool (decide (3000 < (s_3.length : Int))))] ⟨rfl, rfl, rfl, rfl, rfl, rfl, trivial⟩
  refine then_normal ?_
  refine wp_cond_split (hA11.get rfl) (fun hc => ?_) (fun hc => ?_)
  · have ht12 := ht0.1 (of_decide_eq_true hc)
    clear hc
    refine wp_seq ?_
    refine wp_region_lit ?_
    refine sq (opk_call hA11 rfl (r_call (args := #[]) Try.func19 (by decide) rfl (map_arr ml_nil) rfl) ht12 fun a15 v21 w16 hA15 _ hn18 hz19 hK20 => ?_)
    obtain ⟨r_14, rfl, ht17⟩ := hK20
    refine sq (opk_val hA15 rfl (r_assign (hA15.get rfl)) fun a22 hA22 _ => ?_)
    refine sq_end ?_
    have hA23 := hA22.keep [(10, .bool r_14)] ⟨rfl, trivial⟩
    refine then_normal ?_
    refine wp_ret ?_
    refine then_ret ?_
    exact res_all (vs := [.bool r_14]) rfl hA23 ⟨res_of_tmp hA23 rfl, trivial⟩ ht17
  · have ht13 := ht0.2 (of_decide_eq_false hc)
    clear hc
    refine wp_skip ?_
    refine then_normal ?_
    refine wp_seq ?_
    refine wp_region_lit ?_
    refine sq (opk_val hA11 rfl (r_move (hA11.get rfl)) fun a24 hA24 _ => ?_)
    refine sq (opk_run hA24 rfl (fun _ _ hr => r_append rfl (hA24.get rfl) hr) ht13 fun a25 v31 w26 hA25 _ hn28 hz29 hK30 => ?_)
    obtain ⟨r_32, rfl, ht27⟩ := hK30
    refine sq (opk_new (fun B => .slice (some ⟨B, 0, none⟩) 1 1) hA25 rfl (r_buildSlice (vs := #[(0, .int .u8 99)]) (cs := [.int .u8 99]) (map_arr2 (ml2_cons rfl (ml2_nil))) Try.underlying23 ti_5 rfl rfl (by kernel_rfl)) fun a35 w34 B_33 hE36 hN37 hB38 hA35 _ => ?_)
    have hN39 : New w26 B_33 w34 := hN37
    have hC40 : Chg [] w26 w34 := hE36
    have ht41 := ht27 w34 B_33 hN39 hC40
    have ht42 := ht41 hB38
    refine sq (opk_run hA35 rfl (fun _ _ hr => r_append (hA35.get rfl) (hA35.get rfl) hr) ht42 fun a43 v49 w44 hA43 _ hn46 hz47 hK48 => ?_)
    obtain ⟨r_50, rfl, ht45⟩ := hK48
    refine sq (opk_val hA43 rfl (r_move (hA43.get rfl)) fun a51 hA51 _ => ?_)
    refine sq (opk_val hA51 rfl (r_len (hA51.get rfl) Try.underlying23) fun a52 hA52 _ => ?_)
    obtain ⟨hS54, ht55⟩ := ht45
    refine sq (opk_val hA52 rfl (r_sliceH (hA52.get rfl) (hA52.get rfl) Try.underlying23 ti_5 hS54) fun a53 hA53 _ => ?_)
    refine sq (opk_val hA53 rfl (r_assign (hA53.get rfl)) fun a56 hA56 _ => ?_)
    refine sq_end ?_
    have hA57 := hA56.keep [(0, Sl.v b_1), (1, .int .u64 v_2), (2, .string (Bs s_3)), (3, .int .i64 at_4), (4, .int .i64 most_5), (11, Sl.v (Sl.cut r_50 1 0 (b_1.n : Int).toNat r_50.c))] ⟨rfl, rfl, rfl, rfl, rfl, rfl, trivial⟩
    refine then_normal ?_
    refine wp_seq ?_
    refine wp_seq ?_
    refine draw' (by kernel_rfl) fun w58 hE59 => ?_
    have hC60 : Chg [] w44 w58 := hE59
    have ht61 := ht55 w58   hC60
    obtain ⟨V_65, hst66, hc67, ht68⟩ := ht61
    obtain ⟨s_71, hx72, ht73⟩ := ht68
    obtain ⟨s_75, hx76, ht77⟩ := ht73
    obtain ⟨V_80, hst81, hc82, ht83⟩ := ht77
    obtain ⟨s_86, hx87, ht88⟩ := ht83
    obtain ⟨hS91, ht92⟩ := ht88
    obtain ⟨V_102, hst103, hc104, ht105⟩ := ht92
    obtain ⟨s_109, hx110, ht111⟩ := ht105
    obtain ⟨s_115, hx116, ht117⟩ := ht111
    obtain ⟨V_126, hst127, hc128, ht129⟩ := ht117
    obtain ⟨s_133, hx134, ht135⟩ := ht129
    obtain ⟨hS139, ht140⟩ := ht135
    obtain ⟨hS145, ht146⟩ := ht140
    refine par (D := [[], [], [0, 1], [0, 1, 2], [], [4], [], [0, 1, 2, 6], [0, 1, 2, 6, 7], [0, 1, 2, 4, 5, 6, 7, 8], [0, 1, 2, 3, 4, 5, 6, 7, 8, 9], [0, 1, 2, 3, 4, 5, 6, 7, 8, 9, 10], [0, 1, 2, 3, 4, 5, 6, 7, 8, 9, 10, 11], [0, 1, 2, 3, 4, 5, 6, 7, 8, 9, 10, 11], [0, 1, 2, 3, 4, 5, 6, 7, 8, 9, 10, 11, 12, 13], [0, 1, 2, 3, 4, 5, 6, 7, 8, 9, 10, 11, 12, 13, 14], [0, 1, 2, 3, 4, 5, 6, 7, 8, 9, 10, 11], [0, 1, 2, 3, 4, 5, 6, 7, 8, 9, 10, 11, 16], [0, 1, 2, 3, 4, 5, 6, 7, 8, 9, 10, 11], [0, 1, 2, 3, 4, 5, 6, 7, 8, 9, 10, 11, 18], [0, 1, 2, 3, 4, 5, 6, 7, 8, 9, 10, 11, 18, 19], [0, 1, 2, 3, 4, 5, 6, 7, 8, 9, 10, 11, 12, 13, 14, 18, 19, 20], [0, 1, 2, 3, 4, 5, 6, 7, 8, 9, 10, 11, 12, 13, 14, 18, 19, 20, 21], [0, 1, 2, 3, 4, 5, 6, 7, 8, 9, 10, 11, 12, 13, 14, 16, 17, 18, 19, 20, 21, 22], [0, 1, 2, 3, 4, 5, 6, 7, 8, 9, 10, 11], [0, 1, 2, 3, 4, 5, 6, 7, 8, 9, 10, 11, 12, 13, 14, 16, 17, 18, 19, 20, 21, 22, 23, 24], [0, 1, 2, 3, 4, 5, 6, 7, 8, 9, 10, 11, 12, 13, 14, 15, 16, 17, 18, 19, 20, 21, 22, 23, 24, 25], [0, 1, 2, 3, 4, 5, 6, 7, 8, 9, 10, 11, 12, 13, 14, 15, 16, 17, 18, 19, 20, 21, 22, 23, 24, 25, 26]]) (S := [0, 1, 2, 3, 4, 5, 6, 7, 8, 9, 10, 11, 12, 13, 14, 15, 16, 17, 18, 19, 20, 21, 22, 23, 24, 25, 26, 27]) (F := []) (V := VL [(0, fun v _ => v = Sl.v (Sl.cut r_50 1 0 (b_1.n : Int).toNat r_50.c)), (1, fun v _ => v = .int .u64 v_2), (2, fun v w' => ∃ r_64 : Sl, V_65 r_64 w' ∧ v = Sl.v r_64), (3, fun v _ => v = .string (Bs s_71)), (4, fun v _ => v = Sl.v b_1), (5, fun v _ => v = .string (Bs s_75)), (6, fun v _ => v = .int .u64 v_2), (7, fun v w' => ∃ r_79 : Sl, V_80 r_79 w' ∧ v = Sl.v r_79), (8, fun v _ => v = .string (Bs s_86)), (9, fun v _ => v = .string (Bs (s_75 ++ s_86))), (10, fun v _ => v = .bool (decide (s_71 ≠ (s_75 ++ s_86)))), (11, fun v _ => v = .bool (decide (s_71 ≠ (s_75 ++ s_86)))), (12, fun v _ => v = cV (true && ((decide (s_71 ≠ (s_75 ++ s_86))) == false)) (Sl.v (Sl.cut r_50 1 0 (b_1.n : Int).toNat r_50.c))), (13, fun v _ => v = cV (true && ((decide (s_71 ≠ (s_75 ++ s_86))) == false)) (.string (Bs s_3))), (14, fun v w' => ∃ r_101 : Sl, (((¬ (s_71 ≠ (s_75 ++ s_86)))) → V_102 r_101 w') ∧ v = cV (true && ((decide (s_71 ≠ (s_75 ++ s_86))) == false)) (Sl.v r_101)), (15, fun v _ => v = cV (true && ((decide (s_71 ≠ (s_75 ++ s_86))) == false)) (.string (Bs s_109))), (16, fun v _ => v = cV (true && ((decide (s_71 ≠ (s_75 ++ s_86))) == false)) (Sl.v b_1)), (17, fun v _ => v = cV (true && ((decide (s_71 ≠ (s_75 ++ s_86))) == false)) (.string (Bs s_115))), (18, fun v _ => v = cV (true && ((decide (s_71 ≠ (s_75 ++ s_86))) == false)) (.string (Bs s_3))), (19, fun v _ => v = cV (true && ((decide (s_71 ≠ (s_75 ++ s_86))) == false)) (.int .i64 (s_3.length : Int))), (20, fun v _ => v = cV (true && ((decide (s_71 ≠ (s_75 ++ s_86))) == false)) (.int .u64 (IntKind.u64.wrap (s_3.length : Int)))), (21, fun v w' => ∃ r_125 : Sl, (((¬ (s_71 ≠ (s_75 ++ s_86)))) → V_126 r_125 w') ∧ v = cV (true && ((decide (s_71 ≠ (s_75 ++ s_86))) == false)) (Sl.v r_125)), (22, fun v _ => v = cV (true && ((decide (s_71 ≠ (s_75 ++ s_86))) == false)) (.string (Bs s_133))), (23, fun v _ => v = cV (true && ((decide (s_71 ≠ (s_75 ++ s_86))) == false)) (.string (Bs (s_115 ++ s_133)))), (24, fun v _ => v = cV (true && ((decide (s_71 ≠ (s_75 ++ s_86))) == false)) (.string (Bs s_3))), (25, fun v _ => v = cV (true && ((decide (s_71 ≠ (s_75 ++ s_86))) == false)) (.string (Bs ((s_115 ++ s_133) ++ s_3)))), (26, fun v _ => v = cV (true && ((decide (s_71 ≠ (s_75 ++ s_86))) == false)) (.bool (decide (s_109 ≠ ((s_115 ++ s_133) ++ s_3))))), (27, fun v _ => v = .bool ((decide (s_71 ≠ (s_75 ++ s_86))) || (decide (s_109 ≠ ((s_115 ++ s_133) ++ s_3)))))]) hA57 (by kernel_rfl) ⟨fun _ _ _ _ h => h, fun _ _ _ _ h => h, fun _ _ _ hE ⟨r_64, h0_, e⟩ => ⟨r_64, (hst66 r_64 _ _ hE h0_), e⟩, fun _ _ _ _ h => h, fun _ _ _ _ h => h, fun _ _ _ _ h => h, fun _ _ _ _ h => h, fun _ _ _ hE ⟨r_79, h0_, e⟩ => ⟨r_79, (hst81 r_79 _ _ hE h0_), e⟩, fun _ _ _ _ h => h, fun _ _ _ _ h => h, fun _ _ _ _ h => h, fun _ _ _ _ h => h, fun _ _ _ _ h => h, fun _ _ _ _ h => h, fun _ _ _ hE ⟨r_101, h0_, e⟩ => ⟨r_101, (fun hp => hst103 r_101 _ _ hE (h0_ hp)), e⟩, fun _ _ _ _ h => h, fun _ _ _ _ h => h, fun _ _ _ _ h => h, fun _ _ _ _ h => h, fun _ _ _ _ h => h, fun _ _ _ _ h => h, fun _ _ _ hE ⟨r_125, h0_, e⟩ => ⟨r_125, (fun hp => hst127 r_125 _ _ hE (h0_ hp)), e⟩, fun _ _ _ _ h => h, fun _ _ _ _ h => h, fun _ _ _ _ h => h, fun _ _ _ _ h => h, fun _ _ _ _ h => h, fun _ _ _ _ h => h, trivial⟩ ⟨?_, ?_, ?_, ?_, ?_, ?_, ?_, ?_, ?_, ?_, ?_, ?_, ?_, ?_, ?_, ?_, ?_, ?_, ?_, ?_, ?_, ?_, ?_, ?_, ?_, ?_, ?_, ?_, trivial⟩ ?_
    · intro a w hT
      have hAp := hT.ag hA57 [(11, Sl.v (Sl.cut r_50 1 0 (b_1.n : Int).toNat r_50.c))] ⟨rfl, trivial⟩ (by kernel_rfl)
      exact opk_val hAp rfl (r_move (hAp.get rfl)) fun _ _ e => ⟨_, e, Chg.refl _ _, fun _ => Eq.refl _⟩
    · intro a w hT
      have hAp := hT.ag hA57 [(1, .int .u64 v_2)] ⟨rfl, trivial⟩ (by kernel_rfl)
      exact opk_val hAp rfl (r_move (hAp.get rfl)) fun _ _ e => ⟨_, e, Chg.refl _ _, fun _ => Eq.refl _⟩
    · intro a w hT
      have hAp := hT.ag hA57 [] trivial (by kernel_rfl)
      have e62 : a.tmps.getD 35 undef = Sl.v (Sl.cut r_50 1 0 (b_1.n : Int).toNat r_50.c) := hT.vals 0 rfl 35 rfl
      have hAp := hAp.add e62
      have e63 : a.tmps.getD 36 undef = .int .u64 v_2 := hT.vals 1 rfl 36 rfl
      have hAp := hAp.add e63
      exact opk_callX hAp rfl (r_call (args := #[Sl.v (Sl.cut r_50 1 0 (b_1.n : Int).toNat r_50.c), .int .u64 v_2]) Try.func17 (by decide) rfl (map_arr (ml_cons (hAp.get rfl) (ml_cons (hAp.get rfl) ml_nil))) rfl) (hc67 w hT.chg) fun _ _ _ _ e ⟨hE, r_64, he, hV⟩ => ⟨_, e, hE, fun _ => ⟨r_64, hV, he⟩⟩
    · intro a w hT
      have hAp := hT.ag hA57 [] trivial (by kernel_rfl)
      obtain ⟨r_64, hf70, e69⟩ := hT.vals 2 rfl 37 rfl
      have hAp := hAp.add e69
      exact opk_val hAp rfl (r_convR (hAp.get rfl) (hx72 r_64 w hT.chg hf70)) fun _ _ e => ⟨_, e, Chg.refl _ _, fun _ => Eq.refl _⟩
    · intro a w hT
      have hAp := hT.ag hA57 [(0, Sl.v b_1)] ⟨rfl, trivial⟩ (by kernel_rfl)
      exact opk_val hAp rfl (r_move (hAp.get rfl)) fun _ _ e => ⟨_, e, Chg.refl _ _, fun _ => Eq.refl _⟩
    · intro a w hT
      have hAp := hT.ag hA57 [] trivial (by kernel_rfl)
      have e74 : a.tmps.getD 39 undef = Sl.v b_1 := hT.vals 4 rfl 39 rfl
      have hAp := hAp.add e74
      exact opk_val hAp rfl (r_convR (hAp.get rfl) (hx76 w hT.chg)) fun _ _ e => ⟨_, e, Chg.refl _ _, fun _ => Eq.refl _⟩
    · intro a w hT
      have hAp := hT.ag hA57 [(1, .int .u64 v_2)] ⟨rfl, trivial⟩ (by kernel_rfl)
      exact opk_val hAp rfl (r_move (hAp.get rfl)) fun _ _ e => ⟨_, e, Chg.refl _ _, fun _ => Eq.refl _⟩
    · intro a w hT
      have hAp := hT.ag hA57 [] trivial (by kernel_rfl)
      have e78 : a.tmps.getD 41 undef = .int .u64 v_2 := hT.vals 6 rfl 41 rfl
      have hAp := hAp.add e78
      exact opk_callX hAp rfl (r_call (args := #[.int .u64 v_2]) Try.func20 (by decide) rfl (map_arr (ml_cons (hAp.get rfl) ml_nil)) rfl) (hc82 w hT.chg) fun _ _ _ _ e ⟨hE, r_79, he, hV⟩ => ⟨_, e, hE, fun _ => ⟨r_79, hV, he⟩⟩
    · intro a w hT
      have hAp := hT.ag hA57 [] trivial (by kernel_rfl)
      obtain ⟨r_79, hf85, e84⟩ := hT.vals 7 rfl 42 rfl
      have hAp := hAp.add e84
      exact opk_val hAp rfl (r_convR (hAp.get rfl) (hx87 r_79 w hT.chg hf85)) fun _ _ e => ⟨_, e, Chg.refl _ _, fun _ => Eq.refl _⟩
    · intro a w hT
      have hAp := hT.ag hA57 [] trivial (by kernel_rfl)
      have e89 : a.tmps.getD 40 undef = .string (Bs s_75) := hT.vals 5 rfl 40 rfl
      have hAp := hAp.add e89
      have e90 : a.tmps.getD 43 undef = .string (Bs s_86) := hT.vals 8 rfl 43 rfl
      have hAp := hAp.add e90
      exact opk_val hAp rfl (r_sadd (hAp.get rfl) (hAp.get rfl) hS91) fun _ _ e => ⟨_, e, Chg.refl _ _, fun _ => Eq.refl _⟩
    · intro a w hT
      have hAp := hT.ag hA57 [] trivial (by kernel_rfl)
      have e93 : a.tmps.getD 38 undef = .string (Bs s_71) := hT.vals 3 rfl 38 rfl
      have hAp := hAp.add e93
      have e94 : a.tmps.getD 44 undef = .string (Bs (s_75 ++ s_86)) := hT.vals 9 rfl 44 rfl
      have hAp := hAp.add e94
      exact opk_val hAp rfl (r_sneq (hAp.get rfl) (hAp.get rfl)) fun _ _ e => ⟨_, e, Chg.refl _ _, fun _ => Eq.refl _⟩
    · intro a w hT
      have hAp := hT.ag hA57 [] trivial (by kernel_rfl)
      have e95 : a.tmps.getD 45 undef = .bool (decide (s_71 ≠ (s_75 ++ s_86))) := hT.vals 10 rfl 45 rfl
      have hAp := hAp.add e95
      exact opk_val hAp rfl (r_move (hAp.get rfl)) fun _ _ e => ⟨_, e, Chg.refl _ _, fun _ => Eq.refl _⟩
    · intro a w hT
      have hAp := hT.ag hA57 [(11, Sl.v (Sl.cut r_50 1 0 (b_1.n : Int).toNat r_50.c))] ⟨rfl, trivial⟩ (by kernel_rfl)
      have e96 : a.tmps.getD 46 undef = .bool (decide (s_71 ≠ (s_75 ++ s_86))) := hT.vals 11 rfl 46 rfl
      have hAp := hAp.add e96
      exact opk_gval hAp rfl rfl (g := true) (e := (decide (s_71 ≠ (s_75 ++ s_86)))) rfl (fun hg => r_move (hAp.get rfl)) fun _ _ e => ⟨_, e, Chg.refl _ _, fun _ => Eq.refl _⟩
    · intro a w hT
      have hAp := hT.ag hA57 [(2, .string (Bs s_3))] ⟨rfl, trivial⟩ (by kernel_rfl)
      have e97 : a.tmps.getD 46 undef = .bool (decide (s_71 ≠ (s_75 ++ s_86))) := hT.vals 11 rfl 46 rfl
      have hAp := hAp.add e97
      exact opk_gval hAp rfl rfl (g := true) (e := (decide (s_71 ≠ (s_75 ++ s_86)))) rfl (fun hg => r_move (hAp.get rfl)) fun _ _ e => ⟨_, e, Chg.refl _ _, fun _ => Eq.refl _⟩
    · intro a w hT
      have hAp := hT.ag hA57 [] trivial (by kernel_rfl)
      have e98 : a.tmps.getD 46 undef = .bool (decide (s_71 ≠ (s_75 ++ s_86))) := hT.vals 11 rfl 46 rfl
      have hAp := hAp.add e98
      have e99 : a.tmps.getD 47 undef = cV (true && ((decide (s_71 ≠ (s_75 ++ s_86))) == false)) (Sl.v (Sl.cut r_50 1 0 (b_1.n : Int).toNat r_50.c)) := hT.vals 12 rfl 47 rfl
      have hAp := hAp.add e99
      have e100 : a.tmps.getD 48 undef = cV (true && ((decide (s_71 ≠ (s_75 ++ s_86))) == false)) (.string (Bs s_3)) := hT.vals 13 rfl 48 rfl
      have hAp := hAp.add e100
      exact opk_gcallM hAp rfl rfl (g := true) (e := (decide (s_71 ≠ (s_75 ++ s_86)))) rfl (fun hg => r_call (args := #[Sl.v (Sl.cut r_50 1 0 (b_1.n : Int).toNat r_50.c), .string (Bs s_3)]) Try.func21 (by decide) rfl (map_arr (ml_cons (cv_get (hAp.get rfl) hg) (ml_cons (cv_get (hAp.get rfl) hg) ml_nil))) rfl) (fun hg => hc104 (of_decide_eq_false (g_f hg)) w hT.chg) fun _ _ _ _ e hE hR => ⟨_, e, hE, fun _ => by obtain ⟨r_101, hx, hV⟩ := cvty (α := Sl) (fun s => Sl.v s) (fun s w => V_102 s w) (fun hg => by obtain ⟨r_101, h1, h2⟩ := hR hg; exact ⟨r_101, h1, h2⟩); exact ⟨r_101, fun hp => hV (g_mkf rfl (decide_eq_false hp)), hx⟩⟩
    · intro a w hT
      have hAp := hT.ag hA57 [] trivial (by kernel_rfl)
      have e106 : a.tmps.getD 46 undef = .bool (decide (s_71 ≠ (s_75 ++ s_86))) := hT.vals 11 rfl 46 rfl
      have hAp := hAp.add e106
      obtain ⟨r_101, hf108, e107⟩ := hT.vals 14 rfl 49 rfl
      have hAp := hAp.add e107
      exact opk_gval hAp rfl rfl (g := true) (e := (decide (s_71 ≠ (s_75 ++ s_86)))) rfl (fun hg => r_convR (cv_get (hAp.get rfl) hg) ((hx110 (of_decide_eq_false (g_f hg))) r_101 w hT.chg hf108)) fun _ _ e => ⟨_, e, Chg.refl _ _, fun _ => Eq.refl _⟩
    · intro a w hT
      have hAp := hT.ag hA57 [(0, Sl.v b_1)] ⟨rfl, trivial⟩ (by kernel_rfl)
      have e112 : a.tmps.getD 46 undef = .bool (decide (s_71 ≠ (s_75 ++ s_86))) := hT.vals 11 rfl 46 rfl
      have hAp := hAp.add e112
      exact opk_gval hAp rfl rfl (g := true) (e := (decide (s_71 ≠ (s_75 ++ s_86)))) rfl (fun hg => r_move (hAp.get rfl)) fun _ _ e => ⟨_, e, Chg.refl _ _, fun _ => Eq.refl _⟩
    · intro a w hT
      have hAp := hT.ag hA57 [] trivial (by kernel_rfl)
      have e113 : a.tmps.getD 46 undef = .bool (decide (s_71 ≠ (s_75 ++ s_86))) := hT.vals 11 rfl 46 rfl
      have hAp := hAp.add e113
      have e114 : a.tmps.getD 51 undef = cV (true && ((decide (s_71 ≠ (s_75 ++ s_86))) == false)) (Sl.v b_1) := hT.vals 16 rfl 51 rfl
      have hAp := hAp.add e114
      exact opk_gval hAp rfl rfl (g := true) (e := (decide (s_71 ≠ (s_75 ++ s_86)))) rfl (fun hg => r_convR (cv_get (hAp.get rfl) hg) ((hx116 (of_decide_eq_false (g_f hg))) w hT.chg)) fun _ _ e => ⟨_, e, Chg.refl _ _, fun _ => Eq.refl _⟩
    · intro a w hT
      have hAp := hT.ag hA57 [(2, .string (Bs s_3))] ⟨rfl, trivial⟩ (by kernel_rfl)
      have e118 : a.tmps.getD 46 undef = .bool (decide (s_71 ≠ (s_75 ++ s_86))) := hT.vals 11 rfl 46 rfl
      have hAp := hAp.add e118
      exact opk_gval hAp rfl rfl (g := true) (e := (decide (s_71 ≠ (s_75 ++ s_86)))) rfl (fun hg => r_move (hAp.get rfl)) fun _ _ e => ⟨_, e, Chg.refl _ _, fun _ => Eq.refl _⟩
    · intro a w hT
      have hAp := hT.ag hA57 [] trivial (by kernel_rfl)
      have e119 : a.tmps.getD 46 undef = .bool (decide (s_71 ≠ (s_75 ++ s_86))) := hT.vals 11 rfl 46 rfl
      have hAp := hAp.add e119
      have e120 : a.tmps.getD 53 undef = cV (true && ((decide (s_71 ≠ (s_75 ++ s_86))) == false)) (.string (Bs s_3)) := hT.vals 18 rfl 53 rfl
      have hAp := hAp.add e120
      exact opk_gval hAp rfl rfl (g := true) (e := (decide (s_71 ≠ (s_75 ++ s_86)))) rfl (fun hg => r_slen (cv_get (hAp.get rfl) hg) Try.underlying9) fun _ _ e => ⟨_, e, Chg.refl _ _, fun _ => Eq.refl _⟩
    · intro a w hT
      have hAp := hT.ag hA57 [] trivial (by kernel_rfl)
      have e121 : a.tmps.getD 46 undef = .bool (decide (s_71 ≠ (s_75 ++ s_86))) := hT.vals 11 rfl 46 rfl
      have hAp := hAp.add e121
      have e122 : a.tmps.getD 54 undef = cV (true && ((decide (s_71 ≠ (s_75 ++ s_86))) == false)) (.int .i64 (s_3.length : Int)) := hT.vals 19 rfl 54 rfl
      have hAp := hAp.add e122
      exact opk_gval hAp rfl rfl (g := true) (e := (decide (s_71 ≠ (s_75 ++ s_86)))) rfl (fun hg => r_conv (cv_get (hAp.get rfl) hg) rfl Try.underlying31) fun _ _ e => ⟨_, e, Chg.refl _ _, fun _ => Eq.refl _⟩
    · intro a w hT
      have hAp := hT.ag hA57 [] trivial (by kernel_rfl)
      have e123 : a.tmps.getD 46 undef = .bool (decide (s_71 ≠ (s_75 ++ s_86))) := hT.vals 11 rfl 46 rfl
      have hAp := hAp.add e123
      have e124 : a.tmps.getD 55 undef = cV (true && ((decide (s_71 ≠ (s_75 ++ s_86))) == false)) (.int .u64 (IntKind.u64.wrap (s_3.length : Int))) := hT.vals 20 rfl 55 rfl
      have hAp := hAp.add e124
      exact opk_gcallM hAp rfl rfl (g := true) (e := (decide (s_71 ≠ (s_75 ++ s_86)))) rfl (fun hg => r_call (args := #[.int .u64 (IntKind.u64.wrap (s_3.length : Int))]) Try.func20 (by decide) rfl (map_arr (ml_cons (cv_get (hAp.get rfl) hg) ml_nil)) rfl) (fun hg => hc128 (of_decide_eq_false (g_f hg)) w hT.chg) fun _ _ _ _ e hE hR => ⟨_, e, hE, fun _ => by obtain ⟨r_125, hx, hV⟩ := cvty (α := Sl) (fun s => Sl.v s) (fun s w => V_126 s w) (fun hg => by obtain ⟨r_125, h1, h2⟩ := hR hg; exact ⟨r_125, h1, h2⟩); exact ⟨r_125, fun hp => hV (g_mkf rfl (decide_eq_false hp)), hx⟩⟩
    · intro a w hT
      have hAp := hT.ag hA57 [] trivial (by kernel_rfl)
      have e130 : a.tmps.getD 46 undef = .bool (decide (s_71 ≠ (s_75 ++ s_86))) := hT.vals 11 rfl 46 rfl
      have hAp := hAp.add e130
      obtain ⟨r_125, hf132, e131⟩ := hT.vals 21 rfl 56 rfl
      have hAp := hAp.add e131
      exact opk_gval hAp rfl rfl (g := true) (e := (decide (s_71 ≠ (s_75 ++ s_86)))) rfl (fun hg => r_convR (cv_get (hAp.get rfl) hg) ((hx134 (of_decide_eq_false (g_f hg))) r_125 w hT.chg hf132)) fun _ _ e => ⟨_, e, Chg.refl _ _, fun _ => Eq.refl _⟩
    · intro a w hT
      have hAp := hT.ag hA57 [] trivial (by kernel_rfl)
      have e136 : a.tmps.getD 46 undef = .bool (decide (s_71 ≠ (s_75 ++ s_86))) := hT.vals 11 rfl 46 rfl
      have hAp := hAp.add e136
      have e137 : a.tmps.getD 52 undef = cV (true && ((decide (s_71 ≠ (s_75 ++ s_86))) == false)) (.string (Bs s_115)) := hT.vals 17 rfl 52 rfl
      have hAp := hAp.add e137
      have e138 : a.tmps.getD 57 undef = cV (true && ((decide (s_71 ≠ (s_75 ++ s_86))) == false)) (.string (Bs s_133)) := hT.vals 22 rfl 57 rfl
      have hAp := hAp.add e138
      exact opk_gval hAp rfl rfl (g := true) (e := (decide (s_71 ≠ (s_75 ++ s_86)))) rfl (fun hg => r_sadd (cv_get (hAp.get rfl) hg) (cv_get (hAp.get rfl) hg) (hS139 (of_decide_eq_false (g_f hg)))) fun _ _ e => ⟨_, e, Chg.refl _ _, fun _ => Eq.refl _⟩
    · intro a w hT
      have hAp := hT.ag hA57 [(2, .string (Bs s_3))] ⟨rfl, trivial⟩ (by kernel_rfl)
      have e141 : a.tmps.getD 46 undef = .bool (decide (s_71 ≠ (s_75 ++ s_86))) := hT.vals 11 rfl 46 rfl
      have hAp := hAp.add e141
      exact opk_gval hAp rfl rfl (g := true) (e := (decide (s_71 ≠ (s_75 ++ s_86)))) rfl (fun hg => r_move (hAp.get rfl)) fun _ _ e => ⟨_, e, Chg.refl _ _, fun _ => Eq.refl _⟩
    · intro a w hT
      have hAp := hT.ag hA57 [] trivial (by kernel_rfl)
      have e142 : a.tmps.getD 46 undef = .bool (decide (s_71 ≠ (s_75 ++ s_86))) := hT.vals 11 rfl 46 rfl
      have hAp := hAp.add e142
      have e143 : a.tmps.getD 58 undef = cV (true && ((decide (s_71 ≠ (s_75 ++ s_86))) == false)) (.string (Bs (s_115 ++ s_133))) := hT.vals 23 rfl 58 rfl
      have hAp := hAp.add e143
      have e144 : a.tmps.getD 59 undef = cV (true && ((decide (s_71 ≠ (s_75 ++ s_86))) == false)) (.string (Bs s_3)) := hT.vals 24 rfl 59 rfl
      have hAp := hAp.add e144
      exact opk_gval hAp rfl rfl (g := true) (e := (decide (s_71 ≠ (s_75 ++ s_86)))) rfl (fun hg => r_sadd (cv_get (hAp.get rfl) hg) (cv_get (hAp.get rfl) hg) (hS145 (of_decide_eq_false (g_f hg)))) fun _ _ e => ⟨_, e, Chg.refl _ _, fun _ => Eq.refl _⟩
    · intro a w hT
      have hAp := hT.ag hA57 [] trivial (by kernel_rfl)
      have e147 : a.tmps.getD 46 undef = .bool (decide (s_71 ≠ (s_75 ++ s_86))) := hT.vals 11 rfl 46 rfl
      have hAp := hAp.add e147
      have e148 : a.tmps.getD 50 undef = cV (true && ((decide (s_71 ≠ (s_75 ++ s_86))) == false)) (.string (Bs s_109)) := hT.vals 15 rfl 50 rfl
      have hAp := hAp.add e148
      have e149 : a.tmps.getD 60 undef = cV (true && ((decide (s_71 ≠ (s_75 ++ s_86))) == false)) (.string (Bs ((s_115 ++ s_133) ++ s_3))) := hT.vals 25 rfl 60 rfl
      have hAp := hAp.add e149
      exact opk_gval hAp rfl rfl (g := true) (e := (decide (s_71 ≠ (s_75 ++ s_86)))) rfl (fun hg => r_sneq (cv_get (hAp.get rfl) hg) (cv_get (hAp.get rfl) hg)) fun _ _ e => ⟨_, e, Chg.refl _ _, fun _ => Eq.refl _⟩
    · intro a w hT
      have hAp := hT.ag hA57 [] trivial (by kernel_rfl)
      have e150 : a.tmps.getD 46 undef = .bool (decide (s_71 ≠ (s_75 ++ s_86))) := hT.vals 11 rfl 46 rfl
      have hAp := hAp.add e150
      have e151 : a.tmps.getD 61 undef = cV (true && ((decide (s_71 ≠ (s_75 ++ s_86))) == false)) (.bool (decide (s_109 ≠ ((s_115 ++ s_133) ++ s_3)))) := hT.vals 26 rfl 61 rfl
      have hAp := hAp.add e151
      exact opk_val hAp rfl (r_pick_or (g := (true && ((decide (s_71 ≠ (s_75 ++ s_86))) == false))) (hAp.get rfl) (hAp.get rfl) (fun he => g_mkf rfl he)) fun _ _ e => ⟨_, e, Chg.refl _ _, fun _ => Eq.refl _⟩
    · intro a152 w153 hE154 hag155 hv156
      have hA152 := hag155 [(0, Sl.v b_1), (3, .int .i64 at_4), (4, .int .i64 most_5), (11, Sl.v (Sl.cut r_50 1 0 (b_1.n : Int).toNat r_50.c))] ⟨rfl, rfl, rfl, rfl, trivial⟩ (by kernel_rfl)
      have e157 : a152.tmps.getD 62 undef = .bool ((decide (s_71 ≠ (s_75 ++ s_86))) || (decide (s_109 ≠ ((s_115 ++ s_133) ++ s_3)))) := hv156 27 rfl 62 rfl
      have hA158 := hA152.add e157
      have hC159 : Chg [] w58 w153 := hE154
      refine PR_end (by kernel_rfl) ?_
      have hA160 := hA158.keep [(0, Sl.v b_1), (3, .int .i64 at_4), (4, .int .i64 most_5), (11, Sl.v (Sl.cut r_50 1 0 (b_1.n : Int).toNat r_50.c)), (62, .bool ((decide (s_71 ≠ (s_75 ++ s_86))) || (decide (s_109 ≠ ((s_115 ++ s_133) ++ s_3)))))] ⟨rfl, rfl, rfl, rfl, rfl, trivial⟩
      refine then_normal ?_
      refine wp_cond_split (hA160.get rfl) (fun hc => ?_) (fun hc => ?_)
      · have ht161 := ht146.1 ((b_or_t hc).imp (fun h => (of_decide_eq_true h)) (fun h => (of_decide_eq_true h)))
        clear hc
        refine wp_seq ?_
        refine wp_region_lit ?_
        refine sq (opk_val hA160 rfl (r_assign rfl) fun a163 hA163 _ => ?_)
        refine sq_end ?_
        have hA164 := hA163.keep [(10, .bool false)] ⟨rfl, trivial⟩
        refine then_normal ?_
        refine wp_ret ?_
        refine then_ret ?_
        have ht165 := ht161 w153   hC159
        exact res_all (vs := [.bool false]) rfl hA164 ⟨res_of_tmp hA164 rfl, trivial⟩ ht165
      · have ht162 := ht146.2 ⟨(of_decide_eq_false (b_or_f hc).1), (of_decide_eq_false (b_or_f hc).2)⟩
        clear hc
        refine wp_skip ?_
        refine then_normal ?_
        refine wp_seq ?_
        refine wp_region_lit ?_
        refine sq (opk_val hA160 rfl (r_move (hA160.get rfl)) fun a166 hA166 _ => ?_)
        refine sq (opk_val hA166 rfl (r_move (hA166.get rfl)) fun a167 hA167 _ => ?_)
        have ht168 := ht162 w153   hC159
        refine sq (opk_call hA167 rfl (r_call (args := #[Sl.v (Sl.cut r_50 1 0 (b_1.n : Int).toNat r_50.c), .int .i64 at_4]) Try.func18 (by decide) rfl (map_arr (ml_cons (hA167.get rfl) (ml_cons (hA167.get rfl) ml_nil))) rfl) ht168 fun a172 v178 w173 hA172 _ hn175 hz176 hK177 => ?_)
        obtain ⟨r_0_169, r_1_170, r_2_171, rfl, ht174⟩ := hK177
        refine sq (opk_val hA172 rfl (r_move (hA172.get rfl)) fun a179 hA179 _ => ?_)
        refine sq (opk_val hA179 rfl (r_extract (hA179.get rfl) rfl) fun a180 hA180 _ => ?_)
        refine sq (opk_val hA180 rfl (r_extract (hA180.get rfl) rfl) fun a181 hA181 _ => ?_)
        refine sq (opk_val hA181 rfl (r_extract (hA181.get rfl) rfl) fun a182 hA182 _ => ?_)
        refine sq (opk_val hA182 rfl (r_assign (hA182.get rfl)) fun a183 hA183 _ => ?_)
        refine sq (opk_val hA183 rfl (r_assign (hA183.get rfl)) fun a184 hA184 _ => ?_)
        refine sq (opk_val hA184 rfl (r_assign (hA184.get rfl)) fun a185 hA185 _ => ?_)
        refine sq_end ?_
        have hA186 := hA185.keep [(0, Sl.v b_1), (3, .int .i64 at_4), (4, .int .i64 most_5), (11, Sl.v (Sl.cut r_50 1 0 (b_1.n : Int).toNat r_50.c)), (12, .int .u64 r_0_169), (13, .int .i64 r_1_170), (14, .int .i64 r_2_171)] ⟨rfl, rfl, rfl, rfl, rfl, rfl, rfl, trivial⟩
        refine then_normal ?_
        refine wp_seq ?_
        refine wp_region_lit ?_
        refine sq (opk_val hA186 rfl (r_move (hA186.get rfl)) fun a187 hA187 _ => ?_)
        refine sq (opk_val hA187 rfl (r_move (hA187.get rfl)) fun a188 hA188 _ => ?_)
        refine sq (opk_call hA188 rfl (r_call (args := #[Sl.v b_1, .int .i64 at_4]) Try.func22 (by decide) rfl (map_arr (ml_cons (hA188.get rfl) (ml_cons (hA188.get rfl) ml_nil))) rfl) ht174 fun a192 v198 w193 hA192 _ hn195 hz196 hK197 => ?_)
        obtain ⟨r_0_189, r_1_190, r_2_191, rfl, ht194⟩ := hK197
        refine sq (opk_val hA192 rfl (r_move (hA192.get rfl)) fun a199 hA199 _ => ?_)
        refine sq (opk_val hA199 rfl (r_extract (hA199.get rfl) rfl) fun a200 hA200 _ => ?_)
        refine sq (opk_val hA200 rfl (r_extract (hA200.get rfl) rfl) fun a201 hA201 _ => ?_)
        refine sq (opk_val hA201 rfl (r_extract (hA201.get rfl) rfl) fun a202 hA202 _ => ?_)
        refine sq (opk_val hA202 rfl (r_assign (hA202.get rfl)) fun a203 hA203 _ => ?_)
        refine sq (opk_val hA203 rfl (r_assign (hA203.get rfl)) fun a204 hA204 _ => ?_)
        refine sq (opk_val hA204 rfl (r_assign (hA204.get rfl)) fun a205 hA205 _ => ?_)
        refine sq_end ?_
        have hA206 := hA205.keep [(0, Sl.v b_1), (3, .int .i64 at_4), (4, .int .i64 most_5), (11, Sl.v (Sl.cut r_50 1 0 (b_1.n : Int).toNat r_50.c)), (12, .int .u64 r_0_169), (13, .int .i64 r_1_170), (14, .int .i64 r_2_171), (15, .int .u64 r_0_189), (16, .int .i64 r_1_190), (17, .int .i64 r_2_191)] ⟨rfl, rfl, rfl, rfl, rfl, rfl, rfl, rfl, rfl, rfl, trivial⟩
        refine then_normal ?_
        refine wp_seq ?_
        refine wp_region_lit ?_
        refine sq (opk_val hA206 rfl (r_move (hA206.get rfl)) fun a207 hA207 _ => ?_)
        refine sq (opk_val hA207 rfl (r_move (hA207.get rfl)) fun a208 hA208 _ => ?_)
        refine sq (opk_val hA208 rfl (r_move (hA208.get rfl)) fun a209 hA209 _ => ?_)
        refine sq (opk_call hA209 rfl (r_call (args := #[Sl.v (Sl.cut r_50 1 0 (b_1.n : Int).toNat r_50.c), .int .i64 at_4, .int .i64 most_5]) Try.func23 (by decide) rfl (map_arr (ml_cons (hA209.get rfl) (ml_cons (hA209.get rfl) (ml_cons (hA209.get rfl) ml_nil)))) rfl) ht194 fun a213 v219 w214 hA213 _ hn216 hz217 hK218 => ?_)
        obtain ⟨r_0_210, r_1_211, r_2_212, rfl, ht215⟩ := hK218
        refine sq (opk_val hA213 rfl (r_move (hA213.get rfl)) fun a220 hA220 _ => ?_)
        refine sq (opk_val hA220 rfl (r_extract (hA220.get rfl) rfl) fun a221 hA221 _ => ?_)
        refine sq (opk_val hA221 rfl (r_extract (hA221.get rfl) rfl) fun a222 hA222 _ => ?_)
        refine sq (opk_val hA222 rfl (r_extract (hA222.get rfl) rfl) fun a223 hA223 _ => ?_)
        refine sq (opk_val hA223 rfl (r_assign (hA223.get rfl)) fun a224 hA224 _ => ?_)
        refine sq (opk_val hA224 rfl (r_assign (hA224.get rfl)) fun a225 hA225 _ => ?_)
        refine sq (opk_val hA225 rfl (r_assign (hA225.get rfl)) fun a226 hA226 _ => ?_)
        refine sq_end ?_
        have hA227 := hA226.keep [(0, Sl.v b_1), (3, .int .i64 at_4), (4, .int .i64 most_5), (11, Sl.v (Sl.cut r_50 1 0 (b_1.n : Int).toNat r_50.c)), (12, .int .u64 r_0_169), (13, .int .i64 r_1_170), (14, .int .i64 r_2_171), (15, .int .u64 r_0_189), (16, .int .i64 r_1_190), (17, .int .i64 r_2_191), (18, .string (Bs r_0_210)), (19, .int .i64 r_1_211), (20, .int .i64 r_2_212)] ⟨rfl, rfl, rfl, rfl, rfl, rfl, rfl, rfl, rfl, rfl, rfl, rfl, rfl, trivial⟩
        refine then_normal ?_
        refine wp_seq ?_
        refine wp_region_lit ?_
        refine sq (opk_val hA227 rfl (r_move (hA227.get rfl)) fun a228 hA228 _ => ?_)
        refine sq (opk_val hA228 rfl (r_move (hA228.get rfl)) fun a229 hA229 _ => ?_)
        refine sq (opk_val hA229 rfl (r_move (hA229.get rfl)) fun a230 hA230 _ => ?_)
        refine sq (opk_call hA230 rfl (r_call (args := #[Sl.v b_1, .int .i64 at_4, .int .i64 most_5]) Try.func24 (by decide) rfl (map_arr (ml_cons (hA230.get rfl) (ml_cons (hA230.get rfl) (ml_cons (hA230.get rfl) ml_nil)))) rfl) ht215 fun a234 v240 w235 hA234 _ hn237 hz238 hK239 => ?_)
        obtain ⟨r_0_231, r_1_232, r_2_233, rfl, ht236⟩ := hK239
        refine sq (opk_val hA234 rfl (r_move (hA234.get rfl)) fun a241 hA241 _ => ?_)
        refine sq (opk_val hA241 rfl (r_extract (hA241.get rfl) rfl) fun a242 hA242 _ => ?_)
        refine sq (opk_val hA242 rfl (r_extract (hA242.get rfl) rfl) fun a243 hA243 _ => ?_)
        refine sq (opk_val hA243 rfl (r_extract (hA243.get rfl) rfl) fun a244 hA244 _ => ?_)
        refine sq (opk_val hA244 rfl (r_assign (hA244.get rfl)) fun a245 hA245 _ => ?_)
        refine sq (opk_val hA245 rfl (r_assign (hA245.get rfl)) fun a246 hA246 _ => ?_)
        refine sq (opk_val hA246 rfl (r_assign (hA246.get rfl)) fun a247 hA247 _ => ?_)
        refine sq_end ?_
        have hA248 := hA247.keep [(0, Sl.v b_1), (11, Sl.v (Sl.cut r_50 1 0 (b_1.n : Int).toNat r_50.c)), (12, .int .u64 r_0_169), (13, .int .i64 r_1_170), (14, .int .i64 r_2_171), (15, .int .u64 r_0_189), (16, .int .i64 r_1_190), (17, .int .i64 r_2_191), (18, .string (Bs r_0_210)), (19, .int .i64 r_1_211), (20, .int .i64 r_2_212), (21, .string (Bs r_0_231)), (22, .int .i64 r_1_232), (23, .int .i64 r_2_233)] ⟨rfl, rfl, rfl, rfl, rfl, rfl, rfl, rfl, rfl, rfl, rfl, rfl, rfl, rfl, trivial⟩
        refine then_normal ?_
        refine wp_seq ?_
        refine wp_region_lit ?_
        refine sq (opk_val hA248 rfl (r_move (hA248.get rfl)) fun a249 hA249 _ => ?_)
        refine sq (opk_val hA249 rfl (r_move (hA249.get rfl)) fun a250 hA250 _ => ?_)
        refine sq (opk_val hA250 rfl (r_eql (hA250.get rfl) (hA250.get rfl)) fun a251 hA251 _ => ?_)
        refine sq (opk_val hA251 rfl (r_move (hA251.get rfl)) fun a252 hA252 _ => ?_)
        refine sq (opk_gval hA252 rfl rfl (g := true) (e := (decide (r_0_169 = r_0_189))) rfl (fun hg => r_move (hA252.get rfl)) fun a253 hA253 _ => ?_)
        refine sq (opk_gval hA253 rfl rfl (g := true) (e := (decide (r_0_169 = r_0_189))) rfl (fun hg => r_move (hA253.get rfl)) fun a254 hA254 _ => ?_)
        refine sq (opk_gval hA254 rfl rfl (g := true) (e := (decide (r_0_169 = r_0_189))) rfl (fun hg => r_eql (cv_get (hA254.get rfl) hg) (cv_get (hA254.get rfl) hg)) fun a255 hA255 _ => ?_)
        refine sq (opk_val hA255 rfl (r_pick_and (g := (true && ((decide (r_0_169 = r_0_189)) == true))) (hA255.get rfl) (hA255.get rfl) (fun he => g_mkt rfl he)) fun a256 hA256 _ => ?_)
        refine sq (opk_val hA256 rfl (r_move (hA256.get rfl)) fun a257 hA257 _ => ?_)
        refine sq (opk_gval hA257 rfl rfl (g := true) (e := ((decide (r_0_169 = r_0_189)) && (decide (r_1_170 = r_1_190)))) rfl (fun hg => r_move (hA257.get rfl)) fun a258 hA258 _ => ?_)
        refine sq (opk_gval hA258 rfl rfl (g := true) (e := ((decide (r_0_169 = r_0_189)) && (decide (r_1_170 = r_1_190)))) rfl (fun hg => r_move (hA258.get rfl)) fun a259 hA259 _ => ?_)
        refine sq (opk_gval hA259 rfl rfl (g := true) (e := ((decide (r_0_169 = r_0_189)) && (decide (r_1_170 = r_1_190)))) rfl (fun hg => r_eql (cv_get (hA259.get rfl) hg) (cv_get (hA259.get rfl) hg)) fun a260 hA260 _ => ?_)
        refine sq (opk_val hA260 rfl (r_pick_and (g := (true && (((decide (r_0_169 = r_0_189)) && (decide (r_1_170 = r_1_190))) == true))) (hA260.get rfl) (hA260.get rfl) (fun he => g_mkt rfl he)) fun a261 hA261 _ => ?_)
        refine sq (opk_val hA261 rfl (r_move (hA261.get rfl)) fun a262 hA262 _ => ?_)
        refine sq (opk_gval hA262 rfl rfl (g := true) (e := (((decide (r_0_169 = r_0_189)) && (decide (r_1_170 = r_1_190))) && (decide (r_2_171 = r_2_191)))) rfl (fun hg => r_move (hA262.get rfl)) fun a263 hA263 _ => ?_)
        refine sq (opk_gval hA263 rfl rfl (g := true) (e := (((decide (r_0_169 = r_0_189)) && (decide (r_1_170 = r_1_190))) && (decide (r_2_171 = r_2_191)))) rfl (fun hg => r_move (hA263.get rfl)) fun a264 hA264 _ => ?_)
        refine sq (opk_gval hA264 rfl rfl (g := true) (e := (((decide (r_0_169 = r_0_189)) && (decide (r_1_170 = r_1_190))) && (decide (r_2_171 = r_2_191)))) rfl (fun hg => r_seql (cv_get (hA264.get rfl) hg) (cv_get (hA264.get rfl) hg)) fun a265 hA265 _ => ?_)
        refine sq (opk_val hA265 rfl (r_pick_and (g := (true && ((((decide (r_0_169 = r_0_189)) && (decide (r_1_170 = r_1_190))) && (decide (r_2_171 = r_2_191))) == true))) (hA265.get rfl) (hA265.get rfl) (fun he => g_mkt rfl he)) fun a266 hA266 _ => ?_)
        refine sq (opk_val hA266 rfl (r_move (hA266.get rfl)) fun a267 hA267 _ => ?_)
        refine sq (opk_gval hA267 rfl rfl (g := true) (e := ((((decide (r_0_169 = r_0_189)) && (decide (r_1_170 = r_1_190))) && (decide (r_2_171 = r_2_191))) && (decide (r_0_210 = r_0_231)))) rfl (fun hg => r_move (hA267.get rfl)) fun a268 hA268 _ => ?_)
        refine sq (opk_gval hA268 rfl rfl (g := true) (e := ((((decide (r_0_169 = r_0_189)) && (decide (r_1_170 = r_1_190))) && (decide (r_2_171 = r_2_191))) && (decide (r_0_210 = r_0_231)))) rfl (fun hg => r_move (hA268.get rfl)) fun a269 hA269 _ => ?_)
        refine sq (opk_gval hA269 rfl rfl (g := true) (e := ((((decide (r_0_169 = r_0_189)) && (decide (r_1_170 = r_1_190))) && (decide (r_2_171 = r_2_191))) && (decide (r_0_210 = r_0_231)))) rfl (fun hg => r_eql (cv_get (hA269.get rfl) hg) (cv_get (hA269.get rfl) hg)) fun a270 hA270 _ => ?_)
        refine sq (opk_val hA270 rfl (r_pick_and (g := (true && (((((decide (r_0_169 = r_0_189)) && (decide (r_1_170 = r_1_190))) && (decide (r_2_171 = r_2_191))) && (decide (r_0_210 = r_0_231))) == true))) (hA270.get rfl) (hA270.get rfl) (fun he => g_mkt rfl he)) fun a271 hA271 _ => ?_)
        refine sq (opk_val hA271 rfl (r_move (hA271.get rfl)) fun a272 hA272 _ => ?_)
        refine sq (opk_gval hA272 rfl rfl (g := true) (e := (((((decide (r_0_169 = r_0_189)) && (decide (r_1_170 = r_1_190))) && (decide (r_2_171 = r_2_191))) && (decide (r_0_210 = r_0_231))) && (decide (r_1_211 = r_1_232)))) rfl (fun hg => r_move (hA272.get rfl)) fun a273 hA273 _ => ?_)
        refine sq (opk_gval hA273 rfl rfl (g := true) (e := (((((decide (r_0_169 = r_0_189)) && (decide (r_1_170 = r_1_190))) && (decide (r_2_171 = r_2_191))) && (decide (r_0_210 = r_0_231))) && (decide (r_1_211 = r_1_232)))) rfl (fun hg => r_move (hA273.get rfl)) fun a274 hA274 _ => ?_)
        refine sq (opk_gval hA274 rfl rfl (g := true) (e := (((((decide (r_0_169 = r_0_189)) && (decide (r_1_170 = r_1_190))) && (decide (r_2_171 = r_2_191))) && (decide (r_0_210 = r_0_231))) && (decide (r_1_211 = r_1_232)))) rfl (fun hg => r_eql (cv_get (hA274.get rfl) hg) (cv_get (hA274.get rfl) hg)) fun a275 hA275 _ => ?_)
        refine sq (opk_val hA275 rfl (r_pick_and (g := (true && ((((((decide (r_0_169 = r_0_189)) && (decide (r_1_170 = r_1_190))) && (decide (r_2_171 = r_2_191))) && (decide (r_0_210 = r_0_231))) && (decide (r_1_211 = r_1_232))) == true))) (hA275.get rfl) (hA275.get rfl) (fun he => g_mkt rfl he)) fun a276 hA276 _ => ?_)
        refine sq (opk_val hA276 rfl (r_move (hA276.get rfl)) fun a277 hA277 _ => ?_)
        refine sq (opk_gval hA277 rfl rfl (g := true) (e := ((((((decide (r_0_169 = r_0_189)) && (decide (r_1_170 = r_1_190))) && (decide (r_2_171 = r_2_191))) && (decide (r_0_210 = r_0_231))) && (decide (r_1_211 = r_1_232))) && (decide (r_2_212 = r_2_233)))) rfl (fun hg => r_move (hA277.get rfl)) fun a278 hA278 _ => ?_)
        refine sq (opk_gval hA278 rfl rfl (g := true) (e := ((((((decide (r_0_169 = r_0_189)) && (decide (r_1_170 = r_1_190))) && (decide (r_2_171 = r_2_191))) && (decide (r_0_210 = r_0_231))) && (decide (r_1_211 = r_1_232))) && (decide (r_2_212 = r_2_233)))) rfl (fun hg => r_move (hA278.get rfl)) fun a279 hA279 _ => ?_)
        refine sq (opk_gval hA279 rfl rfl (g := true) (e := ((((((decide (r_0_169 = r_0_189)) && (decide (r_1_170 = r_1_190))) && (decide (r_2_171 = r_2_191))) && (decide (r_0_210 = r_0_231))) && (decide (r_1_211 = r_1_232))) && (decide (r_2_212 = r_2_233)))) rfl (fun hg => r_len (cv_get (hA279.get rfl) hg) Try.underlying23) fun a280 hA280 _ => ?_)
        obtain ⟨hS282, ht283⟩ := ht236
        refine sq (opk_gval hA280 rfl rfl (g := true) (e := ((((((decide (r_0_169 = r_0_189)) && (decide (r_1_170 = r_1_190))) && (decide (r_2_171 = r_2_191))) && (decide (r_0_210 = r_0_231))) && (decide (r_1_211 = r_1_232))) && (decide (r_2_212 = r_2_233)))) rfl (fun hg => r_addI (cv_get (hA280.get rfl) hg) rfl (hS282 ⟨⟨⟨⟨⟨(of_decide_eq_true (b_and_t (b_and_t (b_and_t (b_and_t (b_and_t (g_t hg)).1).1).1).1).1), (of_decide_eq_true (b_and_t (b_and_t (b_and_t (b_and_t (b_and_t (g_t hg)).1).1).1).1).2)⟩, (of_decide_eq_true (b_and_t (b_and_t (b_and_t (b_and_t (g_t hg)).1).1).1).2)⟩, (of_decide_eq_true (b_and_t (b_and_t (b_and_t (g_t hg)).1).1).2)⟩, (of_decide_eq_true (b_and_t (b_and_t (g_t hg)).1).2)⟩, (of_decide_eq_true (b_and_t (g_t hg)).2)⟩)) fun a281 hA281 _ => ?_)
        obtain ⟨hS285, ht286⟩ := ht283
        refine sq (opk_gval hA281 rfl rfl (g := true) (e := ((((((decide (r_0_169 = r_0_189)) && (decide (r_1_170 = r_1_190))) && (decide (r_2_171 = r_2_191))) && (decide (r_0_210 = r_0_231))) && (decide (r_1_211 = r_1_232))) && (decide (r_2_212 = r_2_233)))) rfl (fun hg => r_sliceH (cv_get (hA281.get rfl) hg) (cv_get (hA281.get rfl) hg) Try.underlying23 ti_5 (hS285 ⟨⟨⟨⟨⟨(of_decide_eq_true (b_and_t (b_and_t (b_and_t (b_and_t (b_and_t (g_t hg)).1).1).1).1).1), (of_decide_eq_true (b_and_t (b_and_t (b_and_t (b_and_t (b_and_t (g_t hg)).1).1).1).1).2)⟩, (of_decide_eq_true (b_and_t (b_and_t (b_and_t (b_and_t (g_t hg)).1).1).1).2)⟩, (of_decide_eq_true (b_and_t (b_and_t (b_and_t (g_t hg)).1).1).2)⟩, (of_decide_eq_true (b_and_t (b_and_t (g_t hg)).1).2)⟩, (of_decide_eq_true (b_and_t (g_t hg)).2)⟩)) fun a284 hA284 _ => ?_)
        refine sq (opk_gval hA284 rfl rfl (g := true) (e := ((((((decide (r_0_169 = r_0_189)) && (decide (r_1_170 = r_1_190))) && (decide (r_2_171 = r_2_191))) && (decide (r_0_210 = r_0_231))) && (decide (r_1_211 = r_1_232))) && (decide (r_2_212 = r_2_233)))) rfl (fun hg => r_move (hA284.get rfl)) fun a287 hA287 _ => ?_)
        refine sq (opk_gval hA287 rfl rfl (g := true) (e := ((((((decide (r_0_169 = r_0_189)) && (decide (r_1_170 = r_1_190))) && (decide (r_2_171 = r_2_191))) && (decide (r_0_210 = r_0_231))) && (decide (r_1_211 = r_1_232))) && (decide (r_2_212 = r_2_233)))) rfl (fun hg => r_len (cv_get (hA287.get rfl) hg) Try.underlying23) fun a288 hA288 _ => ?_)
        obtain ⟨p_289, hp291, ht292⟩ := ht286
        refine sq (opk_gval hA288 rfl rfl (g := true) (e := ((((((decide (r_0_169 = r_0_189)) && (decide (r_1_170 = r_1_190))) && (decide (r_2_171 = r_2_191))) && (decide (r_0_210 = r_0_231))) && (decide (r_1_211 = r_1_232))) && (decide (r_2_212 = r_2_233)))) rfl (fun hg => r_indexAddr (cv_get (hA288.get rfl) hg) (cv_get (hA288.get rfl) hg) Try.underlying23 ti_5 (hp291 ⟨⟨⟨⟨⟨(of_decide_eq_true (b_and_t (b_and_t (b_and_t (b_and_t (b_and_t (g_t hg)).1).1).1).1).1), (of_decide_eq_true (b_and_t (b_and_t (b_and_t (b_and_t (b_and_t (g_t hg)).1).1).1).1).2)⟩, (of_decide_eq_true (b_and_t (b_and_t (b_and_t (b_and_t (g_t hg)).1).1).1).2)⟩, (of_decide_eq_true (b_and_t (b_and_t (b_and_t (g_t hg)).1).1).2)⟩, (of_decide_eq_true (b_and_t (b_and_t (g_t hg)).1).2)⟩, (of_decide_eq_true (b_and_t (g_t hg)).2)⟩).1 (hp291 ⟨⟨⟨⟨⟨(of_decide_eq_true (b_and_t (b_and_t (b_and_t (b_and_t (b_and_t (g_t hg)).1).1).1).1).1), (of_decide_eq_true (b_and_t (b_and_t (b_and_t (b_and_t (b_and_t (g_t hg)).1).1).1).1).2)⟩, (of_decide_eq_true (b_and_t (b_and_t (b_and_t (b_and_t (g_t hg)).1).1).1).2)⟩, (of_decide_eq_true (b_and_t (b_and_t (b_and_t (g_t hg)).1).1).2)⟩, (of_decide_eq_true (b_and_t (b_and_t (g_t hg)).1).2)⟩, (of_decide_eq_true (b_and_t (g_t hg)).2)⟩).2) fun a293 hA293 _ => ?_)
        obtain ⟨x_295, hx296, ht297⟩ := ht292
        refine sq (opk_gval hA293 rfl rfl (g := true) (e := ((((((decide (r_0_169 = r_0_189)) && (decide (r_1_170 = r_1_190))) && (decide (r_2_171 = r_2_191))) && (decide (r_0_210 = r_0_231))) && (decide (r_1_211 = r_1_232))) && (decide (r_2_212 = r_2_233)))) rfl (fun hg => r_load1 Try.underlying5 rfl (cv_get (hA293.get rfl) hg) (hx296 ⟨⟨⟨⟨⟨(of_decide_eq_true (b_and_t (b_and_t (b_and_t (b_and_t (b_and_t (g_t hg)).1).1).1).1).1), (of_decide_eq_true (b_and_t (b_and_t (b_and_t (b_and_t (b_and_t (g_t hg)).1).1).1).1).2)⟩, (of_decide_eq_true (b_and_t (b_and_t (b_and_t (b_and_t (g_t hg)).1).1).1).2)⟩, (of_decide_eq_true (b_and_t (b_and_t (b_and_t (g_t hg)).1).1).2)⟩, (of_decide_eq_true (b_and_t (b_and_t (g_t hg)).1).2)⟩, (of_decide_eq_true (b_and_t (g_t hg)).2)⟩)) fun a294 hA294 _ => ?_)
        refine sq (opk_gval hA294 rfl rfl (g := true) (e := ((((((decide (r_0_169 = r_0_189)) && (decide (r_1_170 = r_1_190))) && (decide (r_2_171 = r_2_191))) && (decide (r_0_210 = r_0_231))) && (decide (r_1_211 = r_1_232))) && (decide (r_2_212 = r_2_233)))) rfl (fun hg => r_eql (cv_get (hA294.get rfl) hg) rfl) fun a298 hA298 _ => ?_)
        refine sq (opk_val hA298 rfl (r_pick_and (g := (true && (((((((decide (r_0_169 = r_0_189)) && (decide (r_1_170 = r_1_190))) && (decide (r_2_171 = r_2_191))) && (decide (r_0_210 = r_0_231))) && (decide (r_1_211 = r_1_232))) && (decide (r_2_212 = r_2_233))) == true))) (hA298.get rfl) (hA298.get rfl) (fun he => g_mkt rfl he)) fun a299 hA299 _ => ?_)
        refine sq (opk_val hA299 rfl (r_move (hA299.get rfl)) fun a300 hA300 _ => ?_)
        obtain ⟨r_301, hc305, ht304⟩ := ht297
        refine sq (opk_gcall hA300 rfl rfl (g := true) (e := (((((((decide (r_0_169 = r_0_189)) && (decide (r_1_170 = r_1_190))) && (decide (r_2_171 = r_2_191))) && (decide (r_0_210 = r_0_231))) && (decide (r_1_211 = r_1_232))) && (decide (r_2_212 = r_2_233))) && (decide (x_295 = 99)))) rfl (fun hg => r_call (args := #[]) Try.func19 (by decide) rfl (map_arr ml_nil) rfl) (fun hg => hc305 ⟨⟨⟨⟨⟨⟨(of_decide_eq_true (b_and_t (b_and_t (b_and_t (b_and_t (b_and_t (b_and_t (g_t hg)).1).1).1).1).1).1), (of_decide_eq_true (b_and_t (b_and_t (b_and_t (b_and_t (b_and_t (b_and_t (g_t hg)).1).1).1).1).1).2)⟩, (of_decide_eq_true (b_and_t (b_and_t (b_and_t (b_and_t (b_and_t (g_t hg)).1).1).1).1).2)⟩, (of_decide_eq_true (b_and_t (b_and_t (b_and_t (b_and_t (g_t hg)).1).1).1).2)⟩, (of_decide_eq_true (b_and_t (b_and_t (b_and_t (g_t hg)).1).1).2)⟩, (of_decide_eq_true (b_and_t (b_and_t (g_t hg)).1).2)⟩, (of_decide_eq_true (b_and_t (g_t hg)).2)⟩) fun a302 w303 hA302 _ hE306 => ?_)
        have hC307 : Chg [] w235 w303 := hE306
        have ht308 := ht304 w303 hE306
        refine sq (opk_val hA302 rfl (r_pick_and (g := (true && ((((((((decide (r_0_169 = r_0_189)) && (decide (r_1_170 = r_1_190))) && (decide (r_2_171 = r_2_191))) && (decide (r_0_210 = r_0_231))) && (decide (r_1_211 = r_1_232))) && (decide (r_2_212 = r_2_233))) && (decide (x_295 = 99))) == true))) (hA302.get rfl) (hA302.get rfl) (fun he => g_mkt rfl he)) fun a309 hA309 _ => ?_)
        refine sq (opk_val hA309 rfl (r_assign (hA309.get rfl)) fun a310 hA310 _ => ?_)
        refine sq_end ?_
        have hA311 := hA310.keep [(10, .bool ((((((((decide (r_0_169 = r_0_189)) && (decide (r_1_170 = r_1_190))) && (decide (r_2_171 = r_2_191))) && (decide (r_0_210 = r_0_231))) && (decide (r_1_211 = r_1_232))) && (decide (r_2_212 = r_2_233))) && (decide (x_295 = 99))) && r_301))] ⟨rfl, trivial⟩
        refine then_normal ?_
        refine wp_ret ?_
        exact res_all (vs := [.bool ((((((((decide (r_0_169 = r_0_189)) && (decide (r_1_170 = r_1_190))) && (decide (r_2_171 = r_2_191))) && (decide (r_0_210 = r_0_231))) && (decide (r_1_211 = r_1_232))) && (decide (r_2_212 = r_2_233))) && (decide (x_295 = 99))) && r_301)]) rfl hA311 ⟨res_of_tmp hA311 rfl, trivial⟩ ht308

/-- The condition of topiary/topiarylaw03.VintBack. -/
def law03_VintBack.vc (v_1 : Int) (s_2 : Str) (cut_3 : Int) (R : Value → World → Prop) (w : World) : Prop :=
((3000 < (s_2.length : Int)) →
CallK Try.prog 19 #[] w [] (fun v w14 => ∃ (r_12 : Bool), v = .bool r_12 ∧
R (.bool r_12) w14)) ∧
((¬ (3000 < (s_2.length : Int))) →
∀ (w23 : World) (B_22 : Nat), New w B_22 w23 → Chg [] w w23 →
Box w23 B_22 5 [.int .u8 7] →
CallK Try.prog 17 #[Sl.v ⟨some ⟨B_22, 0, none⟩, 1, 1⟩, .int .u64 v_1] w23 [] (fun v w35 => ∃ (r_33 : Sl), v = Sl.v r_33 ∧
CallK Try.prog 21 #[Sl.v r_33, .string (Bs s_2)] w35 [] (fun v w44 => ∃ (r_42 : Sl), v = Sl.v r_42 ∧
CallK Try.prog 18 #[Sl.v r_42, .int .i64 1] w44 [] (fun v w57 => ∃ (r_0_53 : Int) (r_1_54 : Int) (r_2_55 : Int), v = .tuple #[.int .u64 r_0_53, .int .i64 r_1_54, .int .i64 r_2_55] ∧
CallK Try.prog 23 #[Sl.v r_42, .int .i64 r_1_54, .int .i64 (s_2.length : Int)] w57 [] (fun v w79 => ∃ (r_0_75 : Str) (r_1_76 : Int) (r_2_77 : Int), v = .tuple #[.string (Bs r_0_75), .int .i64 r_1_76, .int .i64 r_2_77] ∧
(I64 ((s_2.length : Int) + 1)) ∧
CallK Try.prog 16 #[.int .i64 cut_3, .int .i64 ((s_2.length : Int) + 1)] w79 [] (fun v w101 => ∃ (r_99 : Int), v = .int .i64 r_99 ∧
(I64 ((s_2.length : Int) + 2)) ∧
(((r_42.n : Int) < ((s_2.length : Int) + 2)) →
R (.bool false) w101) ∧
((¬ ((r_42.n : Int) < ((s_2.length : Int) + 2))) →
(I64 ((r_42.n : Int) - r_99)) ∧
((0 : Int) ≤ (r_42.n : Int) - r_99 ∧ (r_42.n : Int) - r_99 ≤ (r_42.c : Int)) ∧
CallK Try.prog 23 #[Sl.v (Sl.cut r_42 1 0 ((r_42.n : Int) - r_99).toNat r_42.c), .int .i64 r_1_54, .int .i64 (s_2.length : Int)] w101 [] (fun v w139 => ∃ (r_0_135 : Str) (r_1_136 : Int) (r_2_137 : Int), v = .tuple #[.string (Bs r_0_135), .int .i64 r_1_136, .int .i64 r_2_137] ∧
(I64 ((s_2.length : Int) - 1)) ∧
CallK Try.prog 23 #[Sl.v r_42, .int .i64 r_1_54, .int .i64 ((s_2.length : Int) - 1)] w139 [] (fun v w164 => ∃ (r_0_160 : Str) (r_1_161 : Int) (r_2_162 : Int), v = .tuple #[.string (Bs r_0_160), .int .i64 r_1_161, .int .i64 r_2_162] ∧
∃ (r_212 : Bool), (((((((((r_2_55 = 0) ∧ (r_0_53 = v_1)) ∧ (r_2_77 = 0)) ∧ (r_0_75 = s_2)) ∧ (r_1_76 = (r_42.n : Int))) ∧ (((decide (r_2_137 = 0)) == (decide (r_99 = 0))) = true)) ∧ (r_2_162 = 2))) → Calls Try.prog 19 #[] w164 (Ret fun v w' => Ext w164 w' ∧ v = .bool r_212)) ∧
(∀ w214 : World, Ext w164 w214 →
R (.bool ((((((((decide (r_2_55 = 0)) && (decide (r_0_53 = v_1))) && (decide (r_2_77 = 0))) && (decide (r_0_75 = s_2))) && (decide (r_1_76 = (r_42.n : Int)))) && ((decide (r_2_137 = 0)) == (decide (r_99 = 0)))) && (decide (r_2_162 = 2))) && r_212)) w214))))))))))
set_option maxHeartbeats 1000000 in
set_option maxRecDepth 10000 in
theorem law03_VintBack.ok (v_1 : Int) (s_2 : Str) (cut_3 : Int) {R : Value → World → Prop} {w : World} (ht0 : law03_VintBack.vc v_1 s_2 cut_3 R w) : Calls Try.prog 10 #[.int .u64 v_1, .string (Bs s_2), .int .i64 cut_3] w (Ret R) := by
  refine enter [.int .u64 v_1, .string (Bs s_2), .int .i64 cut_3] Try.func10 rfl Try.ntmps10 rfl ?_
  intro a0 hA0
  unfold law03_VintBack.vc at ht0
  refine wp_seq ?_
  refine wp_region_lit ?_
  refine sq (opk_val hA0 rfl (r_assign rfl) fun a4 hA4 _ => ?_)
  refine sq_end ?_
  have hA5 := hA4.keep [(0, .int .u64 v_1), (1, .string (Bs s_2)), (2, .int .i64 cut_3)] ⟨rfl, rfl, rfl, trivial⟩
  refine then_normal ?_
  refine wp_seq ?_
  refine wp_seq ?_
  refine wp_region_lit ?_
  refine sq (opk_val hA5 rfl (r_move (hA5.get rfl)) fun a6 hA6 _ => ?_)
  refine sq (opk_val hA6 rfl (r_slen (hA6.get rfl) Try.underlying9) fun a7 hA7 _ => ?_)
  refine sq (opk_val hA7 rfl (r_gtr (hA7.get rfl) rfl) fun a8 hA8 _ => ?_)
  refine sq_end ?_
  have hA9 := hA8.keep [(0, .int .u64 v_1), (1, .string (Bs s_2)), (2, .int .i64 cut_3), (23, .bool (decide (3000 < (s_2.length : Int))))] ⟨rfl, rfl, rfl, rfl, trivial⟩
  refine then_normal ?_
  refine wp_cond_split (hA9.get rfl) (fun hc => ?_) (fun hc => ?_)
  · have ht10 := ht0.1 (of_decide_eq_true hc)
    clear hc
    refine wp_seq ?_
    refine wp_region_lit ?_
    refine sq (opk_call hA9 rfl (r_call (args := #[]) Try.func19 (by decide) rfl (map_arr ml_nil) rfl) ht10 fun a13 v19 w14 hA13 _ hn16 hz17 hK18 => ?_)
    obtain ⟨r_12, rfl, ht15⟩ := hK18
    refine sq (opk_val hA13 rfl (r_assign (hA13.get rfl)) fun a20 hA20 _ => ?_)
    refine sq_end ?_
    have hA21 := hA20.keep [(6, .bool r_12)] ⟨rfl, trivial⟩
    refine then_normal ?_
    refine wp_ret ?_
    refine then_ret ?_
    exact res_all (vs := [.bool r_12]) rfl hA21 ⟨res_of_tmp hA21 rfl, trivial⟩ ht15
  · have ht11 := ht0.2 (of_decide_eq_false hc)
    clear hc
    refine wp_skip ?_
    refine then_normal ?_
    refine wp_seq ?_
    refine wp_region_lit ?_
    refine sq (opk_new (fun B => .slice (some ⟨B, 0, none⟩) 1 1) hA9 rfl (r_buildSlice (vs := #[(0, .int .u8 7)]) (cs := [.int .u8 7]) (map_arr2 (ml2_cons rfl (ml2_nil))) Try.underlying23 ti_5 rfl rfl (by kernel_rfl)) fun a24 w23 B_22 hE25 hN26 hB27 hA24 _ => ?_)
    have hN28 : New w B_22 w23 := hN26
    have hC29 : Chg [] w w23 := hE25
    refine sq (opk_val hA24 rfl (r_move (hA24.get rfl)) fun a30 hA30 _ => ?_)
    have ht31 := ht11 w23 B_22 hN28 hC29
    have ht32 := ht31 hB27
    refine sq (opk_call hA30 rfl (r_call (args := #[Sl.v ⟨some ⟨B_22, 0, none⟩, 1, 1⟩, .int .u64 v_1]) Try.func17 (by decide) rfl (map_arr (ml_cons (hA30.get rfl) (ml_cons (hA30.get rfl) ml_nil))) rfl) ht32 fun a34 v40 w35 hA34 _ hn37 hz38 hK39 => ?_)
    obtain ⟨r_33, rfl, ht36⟩ := hK39
    refine sq (opk_val hA34 rfl (r_move (hA34.get rfl)) fun a41 hA41 _ => ?_)
    refine sq (opk_call hA41 rfl (r_call (args := #[Sl.v r_33, .string (Bs s_2)]) Try.func21 (by decide) rfl (map_arr (ml_cons (hA41.get rfl) (ml_cons (hA41.get rfl) ml_nil))) rfl) ht36 fun a43 v49 w44 hA43 _ hn46 hz47 hK48 => ?_)
    obtain ⟨r_42, rfl, ht45⟩ := hK48
    refine sq (opk_val hA43 rfl (r_assign (hA43.get rfl)) fun a50 hA50 _ => ?_)
    refine sq_end ?_
    have hA51 := hA50.keep [(0, .int .u64 v_1), (1, .string (Bs s_2)), (2, .int .i64 cut_3), (7, Sl.v r_42)] ⟨rfl, rfl, rfl, rfl, trivial⟩
    refine then_normal ?_
    refine wp_seq ?_
    refine wp_region_lit ?_
    refine sq (opk_val hA51 rfl (r_move (hA51.get rfl)) fun a52 hA52 _ => ?_)
    refine sq (opk_call hA52 rfl (r_call (args := #[Sl.v r_42, .int .i64 1]) Try.func18 (by decide) rfl (map_arr (ml_cons (hA52.get rfl) (ml_cons rfl ml_nil))) rfl) ht45 fun a56 v62 w57 hA56 _ hn59 hz60 hK61 => ?_)
    obtain ⟨r_0_53, r_1_54, r_2_55, rfl, ht58⟩ := hK61
    refine sq (opk_val hA56 rfl (r_move (hA56.get rfl)) fun a63 hA63 _ => ?_)
    refine sq (opk_val hA63 rfl (r_extract (hA63.get rfl) rfl) fun a64 hA64 _ => ?_)
    refine sq (opk_val hA64 rfl (r_extract (hA64.get rfl) rfl) fun a65 hA65 _ => ?_)
    refine sq (opk_val hA65 rfl (r_extract (hA65.get rfl) rfl) fun a66 hA66 _ => ?_)
    refine sq (opk_val hA66 rfl (r_assign (hA66.get rfl)) fun a67 hA67 _ => ?_)
    refine sq (opk_val hA67 rfl (r_assign (hA67.get rfl)) fun a68 hA68 _ => ?_)
    refine sq (opk_val hA68 rfl (r_assign (hA68.get rfl)) fun a69 hA69 _ => ?_)
    refine sq_end ?_
    have hA70 := hA69.keep [(0, .int .u64 v_1), (1, .string (Bs s_2)), (2, .int .i64 cut_3), (7, Sl.v r_42), (8, .int .u64 r_0_53), (9, .int .i64 r_1_54), (10, .int .i64 r_2_55)] ⟨rfl, rfl, rfl, rfl, rfl, rfl, rfl, trivial⟩
    refine then_normal ?_
    refine wp_seq ?_
    refine wp_region_lit ?_
    refine sq (opk_val hA70 rfl (r_move (hA70.get rfl)) fun a71 hA71 _ => ?_)
    refine sq (opk_val hA71 rfl (r_move (hA71.get rfl)) fun a72 hA72 _ => ?_)
    refine sq (opk_val hA72 rfl (r_move (hA72.get rfl)) fun a73 hA73 _ => ?_)
    refine sq (opk_val hA73 rfl (r_slen (hA73.get rfl) Try.underlying9) fun a74 hA74 _ => ?_)
    refine sq (opk_call hA74 rfl (r_call (args := #[Sl.v r_42, .int .i64 r_1_54, .int .i64 (s_2.length : Int)]) Try.func23 (by decide) rfl (map_arr (ml_cons (hA74.get rfl) (ml_cons (hA74.get rfl) (ml_cons (hA74.get rfl) ml_nil)))) rfl) ht58 fun a78 v84 w79 hA78 _ hn81 hz82 hK83 => ?_)
    obtain ⟨r_0_75, r_1_76, r_2_77, rfl, ht80⟩ := hK83
    refine sq (opk_val hA78 rfl (r_move (hA78.get rfl)) fun a85 hA85 _ => ?_)
    refine sq (opk_val hA85 rfl (r_extract (hA85.get rfl) rfl) fun a86 hA86 _ => ?_)
    refine sq (opk_val hA86 rfl (r_extract (hA86.get rfl) rfl) fun a87 hA87 _ => ?_)
    refine sq (opk_val hA87 rfl (r_extract (hA87.get rfl) rfl) fun a88 hA88 _ => ?_)
    refine sq (opk_val hA88 rfl (r_assign (hA88.get rfl)) fun a89 hA89 _ => ?_)
    refine sq (opk_val hA89 rfl (r_assign (hA89.get rfl)) fun a90 hA90 _ => ?_)
    refine sq (opk_val hA90 rfl (r_assign (hA90.get rfl)) fun a91 hA91 _ => ?_)
    refine sq_end ?_
    have hA92 := hA91.keep [(0, .int .u64 v_1), (1, .string (Bs s_2)), (2, .int .i64 cut_3), (7, Sl.v r_42), (8, .int .u64 r_0_53), (9, .int .i64 r_1_54), (10, .int .i64 r_2_55), (11, .string (Bs r_0_75)), (12, .int .i64 r_1_76), (13, .int .i64 r_2_77)] ⟨rfl, rfl, rfl, rfl, rfl, rfl, rfl, rfl, rfl, rfl, trivial⟩
    refine then_normal ?_
    refine wp_seq ?_
    refine wp_region_lit ?_
    refine sq (opk_val hA92 rfl (r_move (hA92.get rfl)) fun a93 hA93 _ => ?_)
    refine sq (opk_val hA93 rfl (r_move (hA93.get rfl)) fun a94 hA94 _ => ?_)
    refine sq (opk_val hA94 rfl (r_slen (hA94.get rfl) Try.underlying9) fun a95 hA95 _ => ?_)
    obtain ⟨hS97, ht98⟩ := ht80
    refine sq (opk_val hA95 rfl (r_addI (hA95.get rfl) rfl hS97) fun a96 hA96 _ => ?_)
    refine sq (opk_call hA96 rfl (r_call (args := #[.int .i64 cut_3, .int .i64 ((s_2.length : Int) + 1)]) Try.func16 (by decide) rfl (map_arr (ml_cons (hA96.get rfl) (ml_cons (hA96.get rfl) ml_nil))) rfl) ht98 fun a100 v106 w101 hA100 _ hn103 hz104 hK105 => ?_)
    obtain ⟨r_99, rfl, ht102⟩ := hK105
    refine sq (opk_val hA100 rfl (r_assign (hA100.get rfl)) fun a107 hA107 _ => ?_)
    refine sq_end ?_
    have hA108 := hA107.keep [(0, .int .u64 v_1), (1, .string (Bs s_2)), (7, Sl.v r_42), (8, .int .u64 r_0_53), (9, .int .i64 r_1_54), (10, .int .i64 r_2_55), (11, .string (Bs r_0_75)), (12, .int .i64 r_1_76), (13, .int .i64 r_2_77), (14, .int .i64 r_99)] ⟨rfl, rfl, rfl, rfl, rfl, rfl, rfl, rfl, rfl, rfl, trivial⟩
    refine then_normal ?_
    refine wp_seq ?_
    refine wp_seq ?_
    refine wp_region_lit ?_
    refine sq (opk_val hA108 rfl (r_move (hA108.get rfl)) fun a109 hA109 _ => ?_)
    refine sq (opk_val hA109 rfl (r_len (hA109.get rfl) Try.underlying23) fun a110 hA110 _ => ?_)
    refine sq (opk_val hA110 rfl (r_move (hA110.get rfl)) fun a111 hA111 _ => ?_)
    refine sq (opk_val hA111 rfl (r_slen (hA111.get rfl) Try.underlying9) fun a112 hA112 _ => ?_)
    obtain ⟨hS114, ht115⟩ := ht102
    refine sq (opk_val hA112 rfl (r_addI (hA112.get rfl) rfl hS114) fun a113 hA113 _ => ?_)
    refine sq (opk_val hA113 rfl (r_lss (hA113.get rfl) (hA113.get rfl)) fun a116 hA116 _ => ?_)
    refine sq_end ?_
    have hA117 := hA116.keep [(0, .int .u64 v_1), (1, .string (Bs s_2)), (7, Sl.v r_42), (8, .int .u64 r_0_53), (9, .int .i64 r_1_54), (10, .int .i64 r_2_55), (11, .string (Bs r_0_75)), (12, .int .i64 r_1_76), (13, .int .i64 r_2_77), (14, .int .i64 r_99), (55, .bool (decide ((r_42.n : Int) < ((s_2.length : Int) + 2))))] ⟨rfl, rfl, rfl, rfl, rfl, rfl, rfl, rfl, rfl, rfl, rfl, trivial⟩
    refine then_normal ?_
    refine wp_cond_split (hA117.get rfl) (fun hc => ?_) (fun hc => ?_)
    · have ht118 := ht115.1 (of_decide_eq_true hc)
      clear hc
      refine wp_seq ?_
      refine wp_region_lit ?_
      refine sq (opk_val hA117 rfl (r_assign rfl) fun a120 hA120 _ => ?_)
      refine sq_end ?_
      have hA121 := hA120.keep [(6, .bool false)] ⟨rfl, trivial⟩
      refine then_normal ?_
      refine wp_ret ?_
      refine then_ret ?_
      exact res_all (vs := [.bool false]) rfl hA121 ⟨res_of_tmp hA121 rfl, trivial⟩ ht118
    · have ht119 := ht115.2 (of_decide_eq_false hc)
      clear hc
      refine wp_skip ?_
      refine then_normal ?_
      refine wp_seq ?_
      refine wp_region_lit ?_
      refine sq (opk_val hA117 rfl (r_move (hA117.get rfl)) fun a122 hA122 _ => ?_)
      refine sq (opk_val hA122 rfl (r_move (hA122.get rfl)) fun a123 hA123 _ => ?_)
      refine sq (opk_val hA123 rfl (r_len (hA123.get rfl) Try.underlying23) fun a124 hA124 _ => ?_)
      refine sq (opk_val hA124 rfl (r_move (hA124.get rfl)) fun a125 hA125 _ => ?_)
      obtain ⟨hS127, ht128⟩ := ht119
      refine sq (opk_val hA125 rfl (r_subI (hA125.get rfl) (hA125.get rfl) hS127) fun a126 hA126 _ => ?_)
      obtain ⟨hS130, ht131⟩ := ht128
      refine sq (opk_val hA126 rfl (r_sliceH (hA126.get rfl) (hA126.get rfl) Try.underlying23 ti_5 hS130) fun a129 hA129 _ => ?_)
      refine sq (opk_val hA129 rfl (r_move (hA129.get rfl)) fun a132 hA132 _ => ?_)
      refine sq (opk_val hA132 rfl (r_move (hA132.get rfl)) fun a133 hA133 _ => ?_)
      refine sq (opk_val hA133 rfl (r_slen (hA133.get rfl) Try.underlying9) fun a134 hA134 _ => ?_)
      refine sq (opk_call hA134 rfl (r_call (args := #[Sl.v (Sl.cut r_42 1 0 ((r_42.n : Int) - r_99).toNat r_42.c), .int .i64 r_1_54, .int .i64 (s_2.length : Int)]) Try.func23 (by decide) rfl (map_arr (ml_cons (hA134.get rfl) (ml_cons (hA134.get rfl) (ml_cons (hA134.get rfl) ml_nil)))) rfl) ht131 fun a138 v144 w139 hA138 _ hn141 hz142 hK143 => ?_)
      obtain ⟨r_0_135, r_1_136, r_2_137, rfl, ht140⟩ := hK143
      refine sq (opk_val hA138 rfl (r_move (hA138.get rfl)) fun a145 hA145 _ => ?_)
      refine sq (opk_val hA145 rfl (r_extract (hA145.get rfl) rfl) fun a146 hA146 _ => ?_)
      refine sq (opk_val hA146 rfl (r_extract (hA146.get rfl) rfl) fun a147 hA147 _ => ?_)
      refine sq (opk_val hA147 rfl (r_extract (hA147.get rfl) rfl) fun a148 hA148 _ => ?_)
      refine sq (opk_val hA148 rfl (r_assign (hA148.get rfl)) fun a149 hA149 _ => ?_)
      refine sq (opk_val hA149 rfl (r_assign (hA149.get rfl)) fun a150 hA150 _ => ?_)
      refine sq (opk_val hA150 rfl (r_assign (hA150.get rfl)) fun a151 hA151 _ => ?_)
      refine sq_end ?_
      have hA152 := hA151.keep [(0, .int .u64 v_1), (1, .string (Bs s_2)), (7, Sl.v r_42), (8, .int .u64 r_0_53), (9, .int .i64 r_1_54), (10, .int .i64 r_2_55), (11, .string (Bs r_0_75)), (12, .int .i64 r_1_76), (13, .int .i64 r_2_77), (14, .int .i64 r_99), (17, .int .i64 r_2_137)] ⟨rfl, rfl, rfl, rfl, rfl, rfl, rfl, rfl, rfl, rfl, rfl, trivial⟩
      refine then_normal ?_
      refine wp_seq ?_
      refine wp_region_lit ?_
      refine sq (opk_val hA152 rfl (r_move (hA152.get rfl)) fun a153 hA153 _ => ?_)
      refine sq (opk_val hA153 rfl (r_move (hA153.get rfl)) fun a154 hA154 _ => ?_)
      refine sq (opk_val hA154 rfl (r_move (hA154.get rfl)) fun a155 hA155 _ => ?_)
      refine sq (opk_val hA155 rfl (r_slen (hA155.get rfl) Try.underlying9) fun a156 hA156 _ => ?_)
      obtain ⟨hS158, ht159⟩ := ht140
      refine sq (opk_val hA156 rfl (r_subI (hA156.get rfl) rfl hS158) fun a157 hA157 _ => ?_)
      refine sq (opk_call hA157 rfl (r_call (args := #[Sl.v r_42, .int .i64 r_1_54, .int .i64 ((s_2.length : Int) - 1)]) Try.func23 (by decide) rfl (map_arr (ml_cons (hA157.get rfl) (ml_cons (hA157.get rfl) (ml_cons (hA157.get rfl) ml_nil)))) rfl) ht159 fun a163 v169 w164 hA163 _ hn166 hz167 hK168 => ?_)
      obtain ⟨r_0_160, r_1_161, r_2_162, rfl, ht165⟩ := hK168
      refine sq (opk_val hA163 rfl (r_move (hA163.get rfl)) fun a170 hA170 _ => ?_)
      refine sq (opk_val hA170 rfl (r_extract (hA170.get rfl) rfl) fun a171 hA171 _ => ?_)
      refine sq (opk_val hA171 rfl (r_extract (hA171.get rfl) rfl) fun a172 hA172 _ => ?_)
      refine sq (opk_val hA172 rfl (r_extract (hA172.get rfl) rfl) fun a173 hA173 _ => ?_)
      refine sq (opk_val hA173 rfl (r_assign (hA173.get rfl)) fun a174 hA174 _ => ?_)
      refine sq (opk_val hA174 rfl (r_assign (hA174.get rfl)) fun a175 hA175 _ => ?_)
      refine sq (opk_val hA175 rfl (r_assign (hA175.get rfl)) fun a176 hA176 _ => ?_)
      refine sq_end ?_
      have hA177 := hA176.keep [(0, .int .u64 v_1), (1, .string (Bs s_2)), (7, Sl.v r_42), (8, .int .u64 r_0_53), (10, .int .i64 r_2_55), (11, .string (Bs r_0_75)), (12, .int .i64 r_1_76), (13, .int .i64 r_2_77), (14, .int .i64 r_99), (17, .int .i64 r_2_137), (20, .int .i64 r_2_162)] ⟨rfl, rfl, rfl, rfl, rfl, rfl, rfl, rfl, rfl, rfl, rfl, trivial⟩
      refine then_normal ?_
      refine wp_seq ?_
      refine wp_region_lit ?_
      refine sq (opk_val hA177 rfl (r_move (hA177.get rfl)) fun a178 hA178 _ => ?_)
      refine sq (opk_val hA178 rfl (r_eql (hA178.get rfl) rfl) fun a179 hA179 _ => ?_)
      refine sq (opk_val hA179 rfl (r_move (hA179.get rfl)) fun a180 hA180 _ => ?_)
      refine sq (opk_gval hA180 rfl rfl (g := true) (e := (decide (r_2_55 = 0))) rfl (fun hg => r_move (hA180.get rfl)) fun a181 hA181 _ => ?_)
      refine sq (opk_gval hA181 rfl rfl (g := true) (e := (decide (r_2_55 = 0))) rfl (fun hg => r_move (hA181.get rfl)) fun a182 hA182 _ => ?_)
      refine sq (opk_gval hA182 rfl rfl (g := true) (e := (decide (r_2_55 = 0))) rfl (fun hg => r_eql (cv_get (hA182.get rfl) hg) (cv_get (hA182.get rfl) hg)) fun a183 hA183 _ => ?_)
      refine sq (opk_val hA183 rfl (r_pick_and (g := (true && ((decide (r_2_55 = 0)) == true))) (hA183.get rfl) (hA183.get rfl) (fun he => g_mkt rfl he)) fun a184 hA184 _ => ?_)
      refine sq (opk_val hA184 rfl (r_move (hA184.get rfl)) fun a185 hA185 _ => ?_)
      refine sq (opk_gval hA185 rfl rfl (g := true) (e := ((decide (r_2_55 = 0)) && (decide (r_0_53 = v_1)))) rfl (fun hg => r_move (hA185.get rfl)) fun a186 hA186 _ => ?_)
      refine sq (opk_gval hA186 rfl rfl (g := true) (e := ((decide (r_2_55 = 0)) && (decide (r_0_53 = v_1)))) rfl (fun hg => r_eql (cv_get (hA186.get rfl) hg) rfl) fun a187 hA187 _ => ?_)
      refine sq (opk_val hA187 rfl (r_pick_and (g := (true && (((decide (r_2_55 = 0)) && (decide (r_0_53 = v_1))) == true))) (hA187.get rfl) (hA187.get rfl) (fun he => g_mkt rfl he)) fun a188 hA188 _ => ?_)
      refine sq (opk_val hA188 rfl (r_move (hA188.get rfl)) fun a189 hA189 _ => ?_)
      refine sq (opk_gval hA189 rfl rfl (g := true) (e := (((decide (r_2_55 = 0)) && (decide (r_0_53 = v_1))) && (decide (r_2_77 = 0)))) rfl (fun hg => r_move (hA189.get rfl)) fun a190 hA190 _ => ?_)
      refine sq (opk_gval hA190 rfl rfl (g := true) (e := (((decide (r_2_55 = 0)) && (decide (r_0_53 = v_1))) && (decide (r_2_77 = 0)))) rfl (fun hg => r_move (hA190.get rfl)) fun a191 hA191 _ => ?_)
      refine sq (opk_gval hA191 rfl rfl (g := true) (e := (((decide (r_2_55 = 0)) && (decide (r_0_53 = v_1))) && (decide (r_2_77 = 0)))) rfl (fun hg => r_seql (cv_get (hA191.get rfl) hg) (cv_get (hA191.get rfl) hg)) fun a192 hA192 _ => ?_)
      refine sq (opk_val hA192 rfl (r_pick_and (g := (true && ((((decide (r_2_55 = 0)) && (decide (r_0_53 = v_1))) && (decide (r_2_77 = 0))) == true))) (hA192.get rfl) (hA192.get rfl) (fun he => g_mkt rfl he)) fun a193 hA193 _ => ?_)
      refine sq (opk_val hA193 rfl (r_move (hA193.get rfl)) fun a194 hA194 _ => ?_)
      refine sq (opk_gval hA194 rfl rfl (g := true) (e := ((((decide (r_2_55 = 0)) && (decide (r_0_53 = v_1))) && (decide (r_2_77 = 0))) && (decide (r_0_75 = s_2)))) rfl (fun hg => r_move (hA194.get rfl)) fun a195 hA195 _ => ?_)
      refine sq (opk_gval hA195 rfl rfl (g := true) (e := ((((decide (r_2_55 = 0)) && (decide (r_0_53 = v_1))) && (decide (r_2_77 = 0))) && (decide (r_0_75 = s_2)))) rfl (fun hg => r_move (hA195.get rfl)) fun a196 hA196 _ => ?_)
      refine sq (opk_gval hA196 rfl rfl (g := true) (e := ((((decide (r_2_55 = 0)) && (decide (r_0_53 = v_1))) && (decide (r_2_77 = 0))) && (decide (r_0_75 = s_2)))) rfl (fun hg => r_len (cv_get (hA196.get rfl) hg) Try.underlying23) fun a197 hA197 _ => ?_)
      refine sq (opk_gval hA197 rfl rfl (g := true) (e := ((((decide (r_2_55 = 0)) && (decide (r_0_53 = v_1))) && (decide (r_2_77 = 0))) && (decide (r_0_75 = s_2)))) rfl (fun hg => r_eql (cv_get (hA197.get rfl) hg) (cv_get (hA197.get rfl) hg)) fun a198 hA198 _ => ?_)
      refine sq (opk_val hA198 rfl (r_pick_and (g := (true && (((((decide (r_2_55 = 0)) && (decide (r_0_53 = v_1))) && (decide (r_2_77 = 0))) && (decide (r_0_75 = s_2))) == true))) (hA198.get rfl) (hA198.get rfl) (fun he => g_mkt rfl he)) fun a199 hA199 _ => ?_)
      refine sq (opk_val hA199 rfl (r_move (hA199.get rfl)) fun a200 hA200 _ => ?_)
      refine sq (opk_gval hA200 rfl rfl (g := true) (e := (((((decide (r_2_55 = 0)) && (decide (r_0_53 = v_1))) && (decide (r_2_77 = 0))) && (decide (r_0_75 = s_2))) && (decide (r_1_76 = (r_42.n : Int))))) rfl (fun hg => r_move (hA200.get rfl)) fun a201 hA201 _ => ?_)
      refine sq (opk_gval hA201 rfl rfl (g := true) (e := (((((decide (r_2_55 = 0)) && (decide (r_0_53 = v_1))) && (decide (r_2_77 = 0))) && (decide (r_0_75 = s_2))) && (decide (r_1_76 = (r_42.n : Int))))) rfl (fun hg => r_eql (cv_get (hA201.get rfl) hg) rfl) fun a202 hA202 _ => ?_)
      refine sq (opk_gval hA202 rfl rfl (g := true) (e := (((((decide (r_2_55 = 0)) && (decide (r_0_53 = v_1))) && (decide (r_2_77 = 0))) && (decide (r_0_75 = s_2))) && (decide (r_1_76 = (r_42.n : Int))))) rfl (fun hg => r_move (hA202.get rfl)) fun a203 hA203 _ => ?_)
      refine sq (opk_gval hA203 rfl rfl (g := true) (e := (((((decide (r_2_55 = 0)) && (decide (r_0_53 = v_1))) && (decide (r_2_77 = 0))) && (decide (r_0_75 = s_2))) && (decide (r_1_76 = (r_42.n : Int))))) rfl (fun hg => r_eql (cv_get (hA203.get rfl) hg) rfl) fun a204 hA204 _ => ?_)
      refine sq (opk_gval hA204 rfl rfl (g := true) (e := (((((decide (r_2_55 = 0)) && (decide (r_0_53 = v_1))) && (decide (r_2_77 = 0))) && (decide (r_0_75 = s_2))) && (decide (r_1_76 = (r_42.n : Int))))) rfl (fun hg => r_beql (cv_get (hA204.get rfl) hg) (cv_get (hA204.get rfl) hg) Try.underlying4) fun a205 hA205 _ => ?_)
      refine sq (opk_val hA205 rfl (r_pick_and (g := (true && ((((((decide (r_2_55 = 0)) && (decide (r_0_53 = v_1))) && (decide (r_2_77 = 0))) && (decide (r_0_75 = s_2))) && (decide (r_1_76 = (r_42.n : Int)))) == true))) (hA205.get rfl) (hA205.get rfl) (fun he => g_mkt rfl he)) fun a206 hA206 _ => ?_)
      refine sq (opk_val hA206 rfl (r_move (hA206.get rfl)) fun a207 hA207 _ => ?_)
      refine sq (opk_gval hA207 rfl rfl (g := true) (e := ((((((decide (r_2_55 = 0)) && (decide (r_0_53 = v_1))) && (decide (r_2_77 = 0))) && (decide (r_0_75 = s_2))) && (decide (r_1_76 = (r_42.n : Int)))) && ((decide (r_2_137 = 0)) == (decide (r_99 = 0))))) rfl (fun hg => r_move (hA207.get rfl)) fun a208 hA208 _ => ?_)
      refine sq (opk_gval hA208 rfl rfl (g := true) (e := ((((((decide (r_2_55 = 0)) && (decide (r_0_53 = v_1))) && (decide (r_2_77 = 0))) && (decide (r_0_75 = s_2))) && (decide (r_1_76 = (r_42.n : Int)))) && ((decide (r_2_137 = 0)) == (decide (r_99 = 0))))) rfl (fun hg => r_eql (cv_get (hA208.get rfl) hg) rfl) fun a209 hA209 _ => ?_)
      refine sq (opk_val hA209 rfl (r_pick_and (g := (true && (((((((decide (r_2_55 = 0)) && (decide (r_0_53 = v_1))) && (decide (r_2_77 = 0))) && (decide (r_0_75 = s_2))) && (decide (r_1_76 = (r_42.n : Int)))) && ((decide (r_2_137 = 0)) == (decide (r_99 = 0)))) == true))) (hA209.get rfl) (hA209.get rfl) (fun he => g_mkt rfl he)) fun a210 hA210 _ => ?_)
      refine sq (opk_val hA210 rfl (r_move (hA210.get rfl)) fun a211 hA211 _ => ?_)
      obtain ⟨r_212, hc216, ht215⟩ := ht165
      refine sq (opk_gcall hA211 rfl rfl (g := true) (e := (((((((decide (r_2_55 = 0)) && (decide (r_0_53 = v_1))) && (decide (r_2_77 = 0))) && (decide (r_0_75 = s_2))) && (decide (r_1_76 = (r_42.n : Int)))) && ((decide (r_2_137 = 0)) == (decide (r_99 = 0)))) && (decide (r_2_162 = 2)))) rfl (fun hg => r_call (args := #[]) Try.func19 (by decide) rfl (map_arr ml_nil) rfl) (fun hg => hc216 ⟨⟨⟨⟨⟨⟨(of_decide_eq_true (b_and_t (b_and_t (b_and_t (b_and_t (b_and_t (b_and_t (g_t hg)).1).1).1).1).1).1), (of_decide_eq_true (b_and_t (b_and_t (b_and_t (b_and_t (b_and_t (b_and_t (g_t hg)).1).1).1).1).1).2)⟩, (of_decide_eq_true (b_and_t (b_and_t (b_and_t (b_and_t (b_and_t (g_t hg)).1).1).1).1).2)⟩, (of_decide_eq_true (b_and_t (b_and_t (b_and_t (b_and_t (g_t hg)).1).1).1).2)⟩, (of_decide_eq_true (b_and_t (b_and_t (b_and_t (g_t hg)).1).1).2)⟩, (b_and_t (b_and_t (g_t hg)).1).2⟩, (of_decide_eq_true (b_and_t (g_t hg)).2)⟩) fun a213 w214 hA213 _ hE217 => ?_)
      have hC218 : Chg [] w164 w214 := hE217
      have ht219 := ht215 w214 hE217
      refine sq (opk_val hA213 rfl (r_pick_and (g := (true && ((((((((decide (r_2_55 = 0)) && (decide (r_0_53 = v_1))) && (decide (r_2_77 = 0))) && (decide (r_0_75 = s_2))) && (decide (r_1_76 = (r_42.n : Int)))) && ((decide (r_2_137 = 0)) == (decide (r_99 = 0)))) && (decide (r_2_162 = 2))) == true))) (hA213.get rfl) (hA213.get rfl) (fun he => g_mkt rfl he)) fun a220 hA220 _ => ?_)
      refine sq (opk_val hA220 rfl (r_assign (hA220.get rfl)) fun a221 hA221 _ => ?_)
      refine sq_end ?_
      have hA222 := hA221.keep [(6, .bool ((((((((decide (r_2_55 = 0)) && (decide (r_0_53 = v_1))) && (decide (r_2_77 = 0))) && (decide (r_0_75 = s_2))) && (decide (r_1_76 = (r_42.n : Int)))) && ((decide (r_2_137 = 0)) == (decide (r_99 = 0)))) && (decide (r_2_162 = 2))) && r_212))] ⟨rfl, trivial⟩
      refine then_normal ?_
      refine wp_ret ?_
      exact res_all (vs := [.bool ((((((((decide (r_2_55 = 0)) && (decide (r_0_53 = v_1))) && (decide (r_2_77 = 0))) && (decide (r_0_75 = s_2))) && (decide (r_1_76 = (r_42.n : Int)))) && ((decide (r_2_137 = 0)) == (decide (r_99 = 0)))) && (decide (r_2_162 = 2))) && r_212)]) rfl hA222 ⟨res_of_tmp hA222 rfl, trivial⟩ ht219

/-- The condition of topiary/topiarylaw00.Bytes. -/
def law00_Bytes.vc (b_1 : Sl) (R : Value → World → Prop) (w : World) : Prop :=
RunK Try.prog (Builtin.append_ #[23, 23] 23 #[Sl.v Sl.nil, Sl.v b_1]) w [] (fun v w6 => ∃ (r_12 : Sl), v = Sl.v r_12 ∧
R (Sl.v r_12) w6)
set_option maxHeartbeats 1000000 in
set_option maxRecDepth 10000 in
theorem law00_Bytes.ok (b_1 : Sl) {R : Value → World → Prop} {w : World} (ht0 : law00_Bytes.vc b_1 R w) : Calls Try.prog 11 #[Sl.v b_1] w (Ret R) := by
  refine enter [Sl.v b_1] Try.func11 rfl Try.ntmps11 rfl ?_
  intro a0 hA0
  unfold law00_Bytes.vc at ht0
  refine wp_seq ?_
  refine wp_region_lit ?_
  refine sq (opk_val hA0 rfl (r_assign rfl) fun a2 hA2 _ => ?_)
  refine sq_end ?_
  have hA3 := hA2.keep [(0, Sl.v b_1)] ⟨rfl, trivial⟩
  refine then_normal ?_
  refine wp_seq ?_
  refine wp_region_lit ?_
  refine sq (opk_val hA3 rfl (r_move (hA3.get rfl)) fun a4 hA4 _ => ?_)
  refine sq (opk_run hA4 rfl (fun _ _ hr => r_append rfl (hA4.get rfl) hr) ht0 fun a5 v11 w6 hA5 _ hn8 hz9 hK10 => ?_)
  obtain ⟨r_12, rfl, ht7⟩ := hK10
  refine sq (opk_val hA5 rfl (r_assign (hA5.get rfl)) fun a13 hA13 _ => ?_)
  refine sq_end ?_
  have hA14 := hA13.keep [(2, Sl.v r_12)] ⟨rfl, trivial⟩
  refine then_normal ?_
  refine wp_ret ?_
  exact res_all (vs := [Sl.v r_12]) rfl hA14 ⟨res_of_tmp hA14 rfl, trivial⟩ ht7

/-- The condition of topiary/crc.More. -/
def crc_More.vc (sum_1 : Int) (b_2 : Sl) (R : Value → World → Prop) (w : World) : Prop :=
∃ (J_16 : Int → Int → World → Prop) (mu_17 : Int → Int → World → Nat),
J_16 (bits .xor .u32 IntKind.u32.max sum_1) 0 w ∧
(∀ (sum_13 : Int) (x_14 : Int) (w15 : World), J_16 sum_13 x_14 w15 →
((x_14 < (b_2.n : Int)) →
((0 : Int) ≤ x_14 ∧ x_14 < (b_2.n : Int)) ∧ ∃ p_131 : Addr, b_2.a = some p_131 ∧
∃ (x_137 : Int), (w15.cell? (p_131.add (x_14.toNat * 1)) = some (.int .u8 x_137)) ∧
∃ (J_153 : Int → Int → World → Prop) (mu_154 : Int → Int → World → Nat),
J_153 (bits .xor .u32 sum_13 (IntKind.u32.wrap x_137)) 0 w15 ∧
(∀ (sum_150 : Int) (x_151 : Int) (w152 : World), J_153 sum_150 x_151 w152 →
((x_151 < 8) →
(I64 (x_151 + 1)) ∧
J_153 (bif decide ((bits .and .u32 sum_150 1) = 1) then bits .xor .u32 (sum_150 / 2 ^ 1) 3988292384 else sum_150 / 2 ^ 1) (x_151 + 1) w152 ∧ mu_154 (bif decide ((bits .and .u32 sum_150 1) = 1) then bits .xor .u32 (sum_150 / 2 ^ 1) 3988292384 else sum_150 / 2 ^ 1) (x_151 + 1) w152 < mu_154 sum_150 x_151 w152) ∧
((¬ (x_151 < 8)) →
(I64 (x_14 + 1)) ∧
J_16 sum_150 (x_14 + 1) w152 ∧ mu_17 sum_150 (x_14 + 1) w152 < mu_17 sum_13 x_14 w15))) ∧
((¬ (x_14 < (b_2.n : Int))) →
R (.int .u32 (bits .xor .u32 IntKind.u32.max sum_13)) w15))
set_option maxHeartbeats 1000000 in
set_option maxRecDepth 10000 in
theorem crc_More.ok (sum_1 : Int) (b_2 : Sl) {R : Value → World → Prop} {w : World} (ht0 : crc_More.vc sum_1 b_2 R w) : Calls Try.prog 12 #[.int .u32 sum_1, Sl.v b_2] w (Ret R) := by
  refine enter [.int .u32 sum_1, Sl.v b_2] Try.func12 rfl Try.ntmps12 rfl ?_
  intro a0 hA0
  unfold crc_More.vc at ht0
  refine wp_seq ?_
  refine wp_region_lit ?_
  refine sq (opk_val hA0 rfl (r_assign rfl) fun a3 hA3 _ => ?_)
  refine sq_end ?_
  have hA4 := hA3.keep [(0, .int .u32 sum_1), (1, Sl.v b_2)] ⟨rfl, rfl, trivial⟩
  refine then_normal ?_
  refine wp_seq ?_
  refine wp_region_lit ?_
  refine sq (opk_val hA4 rfl (r_move (hA4.get rfl)) fun a5 hA5 _ => ?_)
  refine sq (opk_val hA5 rfl (r_cplU (hA5.get rfl) rfl) fun a6 hA6 _ => ?_)
  refine sq (opk_val hA6 rfl (r_assign (hA6.get rfl)) fun a7 hA7 _ => ?_)
  refine sq_end ?_
  have hA8 := hA7.keep [(0, .int .u32 (bits .xor .u32 IntKind.u32.max sum_1)), (1, Sl.v b_2)] ⟨rfl, rfl, trivial⟩
  refine then_normal ?_
  refine wp_seq ?_
  refine wp_seq ?_
  refine wp_region_lit ?_
  refine sq (opk_val hA8 rfl (r_move (hA8.get rfl)) fun a9 hA9 _ => ?_)
  refine sq (opk_val hA9 rfl (r_len (hA9.get rfl) Try.underlying23) fun a10 hA10 _ => ?_)
  refine sq (opk_val hA10 rfl (r_move rfl) fun a11 hA11 _ => ?_)
  refine sq_end ?_
  have hA12 := hA11.keep [(0, .int .u32 (bits .xor .u32 IntKind.u32.max sum_1)), (10, Sl.v b_2), (11, .int .i64 (b_2.n : Int)), (12, .int .i64 0)] ⟨rfl, rfl, rfl, rfl, trivial⟩
  refine then_normal ?_
  refine wp_block ?_
  obtain ⟨J_16, mu_17, h0124, ht123⟩ := ht0
  refine wp_loop_st (σ := Int × Int × World) (fun s a w => Ag 34 a [(0, .int .u32 s.1), (10, Sl.v b_2), (11, .int .i64 (b_2.n : Int)), (12, .int .i64 s.2.1)] ∧ w = s.2.2 ∧ J_16 s.1 s.2.1 s.2.2) (fun s => mu_17 s.1 s.2.1 s.2.2) (bits .xor .u32 IntKind.u32.max sum_1, 0, w) ⟨hA12.keep [(0, .int .u32 (bits .xor .u32 IntKind.u32.max sum_1)), (10, Sl.v b_2), (11, .int .i64 (b_2.n : Int)), (12, .int .i64 0)] ⟨rfl, rfl, rfl, rfl, trivial⟩, rfl, h0124⟩ ?_
  rintro ⟨sum_13, x_14, w15⟩ a122 w_ ⟨hA122, hw_, hJ126⟩
  have hw_ : w15 = w_ := hw_.symm
  subst hw_
  have ht125 := ht123 sum_13 x_14 _ hJ126
  refine wp_seq ?_
  refine wp_region_lit ?_
  refine sq (opk_val hA122 rfl (r_lss (hA122.get rfl) (hA122.get rfl)) fun a127 hA127 _ => ?_)
  refine sq_end ?_
  have hA128 := hA127.keep [(0, .int .u32 sum_13), (10, Sl.v b_2), (11, .int .i64 (b_2.n : Int)), (12, .int .i64 x_14), (13, .bool (decide (x_14 < (b_2.n : Int))))] ⟨rfl, rfl, rfl, rfl, rfl, trivial⟩
  refine then_normal ?_
  refine wp_seq ?_
  refine wp_cond_split (hA128.get rfl) (fun hc => ?_) (fun hc => ?_)
  · have ht129 := ht125.1 (of_decide_eq_true hc)
    clear hc
    refine wp_skip ?_
    refine then_normal ?_
    refine wp_seq ?_
    refine wp_block ?_
    refine wp_seq ?_
    refine wp_region_lit ?_
    obtain ⟨hb132, p_131, hp133, ht134⟩ := ht129
    refine sq (opk_val hA128 rfl (r_indexAddr (hA128.get rfl) (hA128.get rfl) Try.underlying23 ti_5 hb132 hp133) fun a135 hA135 _ => ?_)
    obtain ⟨x_137, hx138, ht139⟩ := ht134
    refine sq (opk_val hA135 rfl (r_load1 Try.underlying5 rfl (hA135.get rfl) hx138) fun a136 hA136 _ => ?_)
    refine sq (opk_val hA136 rfl (r_assign (hA136.get rfl)) fun a140 hA140 _ => ?_)
    refine sq_end ?_
    have hA141 := hA140.keep [(0, .int .u32 sum_13), (6, .int .u8 x_137), (10, Sl.v b_2), (11, .int .i64 (b_2.n : Int)), (12, .int .i64 x_14)] ⟨rfl, rfl, rfl, rfl, rfl, trivial⟩
    refine then_normal ?_
    refine wp_seq ?_
    refine wp_region_lit ?_
    refine sq (opk_val hA141 rfl (r_move (hA141.get rfl)) fun a142 hA142 _ => ?_)
    refine sq (opk_val hA142 rfl (r_move (hA142.get rfl)) fun a143 hA143 _ => ?_)
    refine sq (opk_val hA143 rfl (r_conv (hA143.get rfl) rfl Try.underlying22) fun a144 hA144 _ => ?_)
    refine sq (opk_val hA144 rfl (r_xor (hA144.get rfl) (hA144.get rfl)) fun a145 hA145 _ => ?_)
    refine sq (opk_val hA145 rfl (r_assign (hA145.get rfl)) fun a146 hA146 _ => ?_)
    refine sq_end ?_
    have hA147 := hA146.keep [(0, .int .u32 (bits .xor .u32 sum_13 (IntKind.u32.wrap x_137))), (10, Sl.v b_2), (11, .int .i64 (b_2.n : Int)), (12, .int .i64 x_14)] ⟨rfl, rfl, rfl, rfl, trivial⟩
    refine then_normal ?_
    refine wp_seq ?_
    refine wp_region_lit ?_
    refine sq (opk_val hA147 rfl (r_move rfl) fun a148 hA148 _ => ?_)
    refine sq_end ?_
    have hA149 := hA148.keep [(0, .int .u32 (bits .xor .u32 sum_13 (IntKind.u32.wrap x_137))), (10, Sl.v b_2), (11, .int .i64 (b_2.n : Int)), (12, .int .i64 x_14), (20, .int .i64 0)] ⟨rfl, rfl, rfl, rfl, rfl, trivial⟩
    refine then_normal ?_
    refine wp_block ?_
    obtain ⟨J_153, mu_154, h0189, ht188⟩ := ht139
    refine wp_loop_st (σ := Int × Int × World) (fun s a w => Ag 34 a [(0, .int .u32 s.1), (10, Sl.v b_2), (11, .int .i64 (b_2.n : Int)), (12, .int .i64 x_14), (20, .int .i64 s.2.1)] ∧ w = s.2.2 ∧ J_153 s.1 s.2.1 s.2.2) (fun s => mu_154 s.1 s.2.1 s.2.2) (bits .xor .u32 sum_13 (IntKind.u32.wrap x_137), 0, w15) ⟨hA149.keep [(0, .int .u32 (bits .xor .u32 sum_13 (IntKind.u32.wrap x_137))), (10, Sl.v b_2), (11, .int .i64 (b_2.n : Int)), (12, .int .i64 x_14), (20, .int .i64 0)] ⟨rfl, rfl, rfl, rfl, rfl, trivial⟩, rfl, h0189⟩ ?_
    rintro ⟨sum_150, x_151, w152⟩ a187 w_ ⟨hA187, hw_, hJ191⟩
    have hw_ : w152 = w_ := hw_.symm
    subst hw_
    have ht190 := ht188 sum_150 x_151 _ hJ191
    refine wp_seq ?_
    refine wp_region_lit ?_
    refine sq (opk_val hA187 rfl (r_lss (hA187.get rfl) rfl) fun a192 hA192 _ => ?_)
    refine sq_end ?_
    have hA193 := hA192.keep [(0, .int .u32 sum_150), (10, Sl.v b_2), (11, .int .i64 (b_2.n : Int)), (12, .int .i64 x_14), (20, .int .i64 x_151), (21, .bool (decide (x_151 < 8)))] ⟨rfl, rfl, rfl, rfl, rfl, rfl, trivial⟩
    refine then_normal ?_
    refine wp_seq ?_
    refine wp_cond_split (hA193.get rfl) (fun hc => ?_) (fun hc => ?_)
    · have ht194 := ht190.1 (of_decide_eq_true hc)
      clear hc
      refine wp_skip ?_
      refine then_normal ?_
      refine wp_seq ?_
      refine wp_block ?_
      refine wp_seq ?_
      refine wp_region_lit ?_
      refine sq (opk_val hA193 rfl (r_move (hA193.get rfl)) fun a196 hA196 _ => ?_)
      refine sq (opk_val hA196 rfl (r_and (hA196.get rfl) rfl) fun a197 hA197 _ => ?_)
      refine sq (opk_val hA197 rfl (r_assign (hA197.get rfl)) fun a198 hA198 _ => ?_)
      refine sq_end ?_
      have hA199 := hA198.keep [(0, .int .u32 sum_150), (7, .int .u32 (bits .and .u32 sum_150 1)), (10, Sl.v b_2), (11, .int .i64 (b_2.n : Int)), (12, .int .i64 x_14), (20, .int .i64 x_151)] ⟨rfl, rfl, rfl, rfl, rfl, rfl, trivial⟩
      refine then_normal ?_
      refine wp_seq ?_
      refine wp_region_lit ?_
      refine sq (opk_val hA199 rfl (r_move (hA199.get rfl)) fun a200 hA200 _ => ?_)
      refine sq (opk_val hA200 rfl (r_shr (hA200.get rfl) rfl (by decide) (by decide)) fun a201 hA201 _ => ?_)
      refine sq (opk_val hA201 rfl (r_assign (hA201.get rfl)) fun a202 hA202 _ => ?_)
      refine sq_end ?_
      have hA203 := hA202.keep [(0, .int .u32 (sum_150 / 2 ^ 1)), (7, .int .u32 (bits .and .u32 sum_150 1)), (10, Sl.v b_2), (11, .int .i64 (b_2.n : Int)), (12, .int .i64 x_14), (20, .int .i64 x_151)] ⟨rfl, rfl, rfl, rfl, rfl, rfl, trivial⟩
      refine then_normal ?_
      refine wp_seq ?_
      refine wp_region_lit ?_
      refine sq (opk_val hA203 rfl (r_move (hA203.get rfl)) fun a204 hA204 _ => ?_)
      refine sq (opk_val hA204 rfl (r_eql (hA204.get rfl) rfl) fun a205 hA205 _ => ?_)
      refine sq_end ?_
      have hA206 := hA205.keep [(0, .int .u32 (sum_150 / 2 ^ 1)), (10, Sl.v b_2), (11, .int .i64 (b_2.n : Int)), (12, .int .i64 x_14), (20, .int .i64 x_151), (27, .bool (decide ((bits .and .u32 sum_150 1) = 1)))] ⟨rfl, rfl, rfl, rfl, rfl, rfl, trivial⟩
      refine then_normal ?_
      refine wp_meet (fun a w => Ag 34 a [(0, .int .u32 (bif decide ((bits .and .u32 sum_150 1) = 1) then bits .xor .u32 (sum_150 / 2 ^ 1) 3988292384 else sum_150 / 2 ^ 1)), (10, Sl.v b_2), (11, .int .i64 (b_2.n : Int)), (12, .int .i64 x_14), (20, .int .i64 x_151)] ∧ w = w152) ?_ ?_
      · refine wp_cond_split (hA206.get rfl) (fun hc => ?_) (fun hc => ?_)
        · refine wp_region_lit ?_
          refine sq (opk_val hA206 rfl (r_move (hA206.get rfl)) fun a211 hA211 _ => ?_)
          refine sq (opk_val hA211 rfl (r_xor (hA211.get rfl) rfl) fun a212 hA212 _ => ?_)
          refine sq (opk_val hA212 rfl (r_assign (hA212.get rfl)) fun a213 hA213 _ => ?_)
          refine sq_end ?_
          have hA214 := hA213.keep [(0, .int .u32 (bits .xor .u32 (sum_150 / 2 ^ 1) 3988292384)), (10, Sl.v b_2), (11, .int .i64 (b_2.n : Int)), (12, .int .i64 x_14), (20, .int .i64 x_151)] ⟨rfl, rfl, rfl, rfl, rfl, trivial⟩
          have hA215 := hA214.say (t := 0) rfl (.int .u32 (bif decide ((bits .and .u32 sum_150 1) = 1) then bits .xor .u32 (sum_150 / 2 ^ 1) 3988292384 else sum_150 / 2 ^ 1)) (by rw [hc]; rfl)
          exact then_normal ⟨hA215.keep [(0, .int .u32 (bif decide ((bits .and .u32 sum_150 1) = 1) then bits .xor .u32 (sum_150 / 2 ^ 1) 3988292384 else sum_150 / 2 ^ 1)), (10, Sl.v b_2), (11, .int .i64 (b_2.n : Int)), (12, .int .i64 x_14), (20, .int .i64 x_151)] ⟨rfl, rfl, rfl, rfl, rfl, trivial⟩, rfl⟩
        · refine wp_skip ?_
          have hA216 := hA206.say (t := 0) rfl (.int .u32 (bif decide ((bits .and .u32 sum_150 1) = 1) then bits .xor .u32 (sum_150 / 2 ^ 1) 3988292384 else sum_150 / 2 ^ 1)) (by rw [hc]; rfl)
          exact then_normal ⟨hA216.keep [(0, .int .u32 (bif decide ((bits .and .u32 sum_150 1) = 1) then bits .xor .u32 (sum_150 / 2 ^ 1) 3988292384 else sum_150 / 2 ^ 1)), (10, Sl.v b_2), (11, .int .i64 (b_2.n : Int)), (12, .int .i64 x_14), (20, .int .i64 x_151)] ⟨rfl, rfl, rfl, rfl, rfl, trivial⟩, rfl⟩
      · rintro a217 w_ ⟨hA217, hw_⟩
        have hw_ : w152 = w_ := hw_.symm
        subst hw_
        refine block_normal ?_
        refine then_normal ?_
        refine wp_region_lit ?_
        obtain ⟨hS219, ht220⟩ := ht194
        refine sq (opk_val hA217 rfl (r_addI (hA217.get rfl) rfl hS219) fun a218 hA218 _ => ?_)
        refine sq (opk_val hA218 rfl (r_move (hA218.get rfl)) fun a221 hA221 _ => ?_)
        refine sq_end ?_
        have hA222 := hA221.keep [(0, .int .u32 (bif decide ((bits .and .u32 sum_150 1) = 1) then bits .xor .u32 (sum_150 / 2 ^ 1) 3988292384 else sum_150 / 2 ^ 1)), (10, Sl.v b_2), (11, .int .i64 (b_2.n : Int)), (12, .int .i64 x_14), (20, .int .i64 (x_151 + 1))] ⟨rfl, rfl, rfl, rfl, rfl, trivial⟩
        have hA223 := hA222.keep [(0, .int .u32 (bif decide ((bits .and .u32 sum_150 1) = 1) then bits .xor .u32 (sum_150 / 2 ^ 1) 3988292384 else sum_150 / 2 ^ 1)), (10, Sl.v b_2), (11, .int .i64 (b_2.n : Int)), (12, .int .i64 x_14), (20, .int .i64 (x_151 + 1))] ⟨rfl, rfl, rfl, rfl, rfl, trivial⟩
        exact then_normal ⟨((bif decide ((bits .and .u32 sum_150 1) = 1) then bits .xor .u32 (sum_150 / 2 ^ 1) 3988292384 else sum_150 / 2 ^ 1), x_151 + 1, w152), ⟨hA223, rfl, ht220.1⟩, ht220.2⟩
    · have ht195 := ht190.2 (of_decide_eq_false hc)
      clear hc
      refine wp_exit ?_
      refine then_exit ?_
      refine then_exit ?_
      refine block_hit ?_
      have hA224 := hA193.keep [(0, .int .u32 sum_150), (10, Sl.v b_2), (11, .int .i64 (b_2.n : Int)), (12, .int .i64 x_14)] ⟨rfl, rfl, rfl, rfl, trivial⟩
      refine block_normal ?_
      refine then_normal ?_
      refine wp_region_lit ?_
      obtain ⟨hS226, ht227⟩ := ht195
      refine sq (opk_val hA224 rfl (r_addI (hA224.get rfl) rfl hS226) fun a225 hA225 _ => ?_)
      refine sq (opk_val hA225 rfl (r_move (hA225.get rfl)) fun a228 hA228 _ => ?_)
      refine sq_end ?_
      have hA229 := hA228.keep [(0, .int .u32 sum_150), (10, Sl.v b_2), (11, .int .i64 (b_2.n : Int)), (12, .int .i64 (x_14 + 1))] ⟨rfl, rfl, rfl, rfl, trivial⟩
      have hA230 := hA229.keep [(0, .int .u32 sum_150), (10, Sl.v b_2), (11, .int .i64 (b_2.n : Int)), (12, .int .i64 (x_14 + 1))] ⟨rfl, rfl, rfl, rfl, trivial⟩
      exact then_normal ⟨(sum_150, x_14 + 1, w152), ⟨hA230, rfl, ht227.1⟩, ht227.2⟩
  · have ht130 := ht125.2 (of_decide_eq_false hc)
    clear hc
    refine wp_exit ?_
    refine then_exit ?_
    refine then_exit ?_
    refine block_hit ?_
    have hA231 := hA128.keep [(0, .int .u32 sum_13)] ⟨rfl, trivial⟩
    refine then_normal ?_
    refine wp_seq ?_
    refine wp_region_lit ?_
    refine sq (opk_val hA231 rfl (r_move (hA231.get rfl)) fun a232 hA232 _ => ?_)
    refine sq (opk_val hA232 rfl (r_cplU (hA232.get rfl) rfl) fun a233 hA233 _ => ?_)
    refine sq (opk_val hA233 rfl (r_assign (hA233.get rfl)) fun a234 hA234 _ => ?_)
    refine sq_end ?_
    have hA235 := hA234.keep [(4, .int .u32 (bits .xor .u32 IntKind.u32.max sum_13))] ⟨rfl, trivial⟩
    refine then_normal ?_
    refine wp_ret ?_
    exact res_all (vs := [.int .u32 (bits .xor .u32 IntKind.u32.max sum_13)]) rfl hA235 ⟨res_of_tmp hA235 rfl, trivial⟩ ht130

/-- The condition of topiary/topiaryref02.More. -/
def ref02_More.vc (sum_1 : Int) (b_2 : Sl) (R : Value → World → Prop) (w : World) : Prop :=
∃ (J_14 : Int → Int → World → Prop) (mu_15 : Int → Int → World → Nat),
J_14 (bits .xor .u32 sum_1 4294967295) 0 w ∧
(∀ (s_11 : Int) (i_12 : Int) (w13 : World), J_14 s_11 i_12 w13 →
((i_12 < (b_2.n : Int)) →
((0 : Int) ≤ i_12 ∧ i_12 < (b_2.n : Int)) ∧ ∃ p_142 : Addr, b_2.a = some p_142 ∧
∃ (x_148 : Int), (w13.cell? (p_142.add (i_12.toNat * 1)) = some (.int .u8 x_148)) ∧
∃ (J_160 : Int → Int → World → Prop) (mu_161 : Int → Int → World → Nat),
J_160 (bits .xor .u32 s_11 (IntKind.u32.wrap x_148)) 0 w13 ∧
(∀ (s_157 : Int) (k_158 : Int) (w159 : World), J_160 s_157 k_158 w159 →
((k_158 < 8) →
(I64 (k_158 + 1)) ∧
J_160 (bif decide ((bits .and .u32 s_157 1) = 1) then bits .xor .u32 (s_157 / 2 ^ 1) 3988292384 else s_157 / 2 ^ 1) (k_158 + 1) w159 ∧ mu_161 (bif decide ((bits .and .u32 s_157 1) = 1) then bits .xor .u32 (s_157 / 2 ^ 1) 3988292384 else s_157 / 2 ^ 1) (k_158 + 1) w159 < mu_161 s_157 k_158 w159) ∧
((¬ (k_158 < 8)) →
(I64 (i_12 + 1)) ∧
J_14 s_157 (i_12 + 1) w159 ∧ mu_15 s_157 (i_12 + 1) w159 < mu_15 s_11 i_12 w13))) ∧
((¬ (i_12 < (b_2.n : Int))) →
R (.int .u32 (bits .xor .u32 s_11 4294967295)) w13))
set_option maxHeartbeats 1000000 in
set_option maxRecDepth 10000 in
theorem ref02_More.ok (sum_1 : Int) (b_2 : Sl) {R : Value → World → Prop} {w : World} (ht0 : ref02_More.vc sum_1 b_2 R w) : Calls Try.prog 13 #[.int .u32 sum_1, Sl.v b_2] w (Ret R) := by
  refine enter [.int .u32 sum_1, Sl.v b_2] Try.func13 rfl Try.ntmps13 rfl ?_
  intro a0 hA0
  unfold ref02_More.vc at ht0
  refine wp_seq ?_
  refine wp_region_lit ?_
  refine sq (opk_val hA0 rfl (r_assign rfl) fun a3 hA3 _ => ?_)
  refine sq_end ?_
  have hA4 := hA3.keep [(0, .int .u32 sum_1), (1, Sl.v b_2)] ⟨rfl, rfl, trivial⟩
  refine then_normal ?_
  refine wp_seq ?_
  refine wp_region_lit ?_
  refine sq (opk_val hA4 rfl (r_move (hA4.get rfl)) fun a5 hA5 _ => ?_)
  refine sq (opk_val hA5 rfl (r_xor (hA5.get rfl) rfl) fun a6 hA6 _ => ?_)
  refine sq (opk_val hA6 rfl (r_assign (hA6.get rfl)) fun a7 hA7 _ => ?_)
  refine sq_end ?_
  have hA8 := hA7.keep [(1, Sl.v b_2), (5, .int .u32 (bits .xor .u32 sum_1 4294967295))] ⟨rfl, rfl, trivial⟩
  refine then_normal ?_
  refine wp_seq ?_
  refine wp_seq ?_
  refine wp_region_lit ?_
  refine sq (opk_val hA8 rfl (r_assign rfl) fun a9 hA9 _ => ?_)
  refine sq_end ?_
  have hA10 := hA9.keep [(1, Sl.v b_2), (5, .int .u32 (bits .xor .u32 sum_1 4294967295)), (6, .int .i64 0)] ⟨rfl, rfl, rfl, trivial⟩
  refine then_normal ?_
  refine wp_block ?_
  obtain ⟨J_14, mu_15, h0129, ht128⟩ := ht0
  refine wp_loop_st (σ := Int × Int × World) (fun s a w => Ag 38 a [(1, Sl.v b_2), (5, .int .u32 s.1), (6, .int .i64 s.2.1)] ∧ w = s.2.2 ∧ J_14 s.1 s.2.1 s.2.2) (fun s => mu_15 s.1 s.2.1 s.2.2) (bits .xor .u32 sum_1 4294967295, 0, w) ⟨hA10.keep [(1, Sl.v b_2), (5, .int .u32 (bits .xor .u32 sum_1 4294967295)), (6, .int .i64 0)] ⟨rfl, rfl, rfl, trivial⟩, rfl, h0129⟩ ?_
  rintro ⟨s_11, i_12, w13⟩ a127 w_ ⟨hA127, hw_, hJ131⟩
  have hw_ : w13 = w_ := hw_.symm
  subst hw_
  have ht130 := ht128 s_11 i_12 _ hJ131
  refine wp_seq ?_
  refine wp_seq ?_
  refine wp_region_lit ?_
  refine sq (opk_val hA127 rfl (r_move (hA127.get rfl)) fun a132 hA132 _ => ?_)
  refine sq (opk_val hA132 rfl (r_move (hA132.get rfl)) fun a133 hA133 _ => ?_)
  refine sq (opk_val hA133 rfl (r_len (hA133.get rfl) Try.underlying23) fun a134 hA134 _ => ?_)
  refine sq (opk_val hA134 rfl (r_lss (hA134.get rfl) (hA134.get rfl)) fun a135 hA135 _ => ?_)
  refine sq_end ?_
  have hA136 := hA135.keep [(1, Sl.v b_2), (5, .int .u32 s_11), (6, .int .i64 i_12), (14, .bool (decide (i_12 < (b_2.n : Int))))] ⟨rfl, rfl, rfl, rfl, trivial⟩
  refine then_normal ?_
  refine wp_cond_split (hA136.get rfl) (fun hc => ?_) (fun hc => ?_)
  · have ht137 := ht130.1 (of_decide_eq_true hc)
    clear hc
    refine wp_skip ?_
    refine then_normal ?_
    refine wp_seq ?_
    refine wp_block ?_
    refine wp_seq ?_
    refine wp_region_lit ?_
    refine sq (opk_val hA136 rfl (r_move (hA136.get rfl)) fun a139 hA139 _ => ?_)
    refine sq (opk_val hA139 rfl (r_move (hA139.get rfl)) fun a140 hA140 _ => ?_)
    refine sq (opk_val hA140 rfl (r_move (hA140.get rfl)) fun a141 hA141 _ => ?_)
    obtain ⟨hb143, p_142, hp144, ht145⟩ := ht137
    refine sq (opk_val hA141 rfl (r_indexAddr (hA141.get rfl) (hA141.get rfl) Try.underlying23 ti_5 hb143 hp144) fun a146 hA146 _ => ?_)
    obtain ⟨x_148, hx149, ht150⟩ := ht145
    refine sq (opk_val hA146 rfl (r_load1 Try.underlying5 rfl (hA146.get rfl) hx149) fun a147 hA147 _ => ?_)
    refine sq (opk_val hA147 rfl (r_conv (hA147.get rfl) rfl Try.underlying22) fun a151 hA151 _ => ?_)
    refine sq (opk_val hA151 rfl (r_xor (hA151.get rfl) (hA151.get rfl)) fun a152 hA152 _ => ?_)
    refine sq (opk_val hA152 rfl (r_assign (hA152.get rfl)) fun a153 hA153 _ => ?_)
    refine sq_end ?_
    have hA154 := hA153.keep [(1, Sl.v b_2), (5, .int .u32 (bits .xor .u32 s_11 (IntKind.u32.wrap x_148))), (6, .int .i64 i_12)] ⟨rfl, rfl, rfl, trivial⟩
    refine then_normal ?_
    refine wp_seq ?_
    refine wp_region_lit ?_
    refine sq (opk_val hA154 rfl (r_assign rfl) fun a155 hA155 _ => ?_)
    refine sq_end ?_
    have hA156 := hA155.keep [(1, Sl.v b_2), (5, .int .u32 (bits .xor .u32 s_11 (IntKind.u32.wrap x_148))), (6, .int .i64 i_12), (7, .int .i64 0)] ⟨rfl, rfl, rfl, rfl, trivial⟩
    refine then_normal ?_
    refine wp_block ?_
    obtain ⟨J_160, mu_161, h0198, ht197⟩ := ht150
    refine wp_loop_st (σ := Int × Int × World) (fun s a w => Ag 38 a [(1, Sl.v b_2), (5, .int .u32 s.1), (6, .int .i64 i_12), (7, .int .i64 s.2.1)] ∧ w = s.2.2 ∧ J_160 s.1 s.2.1 s.2.2) (fun s => mu_161 s.1 s.2.1 s.2.2) (bits .xor .u32 s_11 (IntKind.u32.wrap x_148), 0, w13) ⟨hA156.keep [(1, Sl.v b_2), (5, .int .u32 (bits .xor .u32 s_11 (IntKind.u32.wrap x_148))), (6, .int .i64 i_12), (7, .int .i64 0)] ⟨rfl, rfl, rfl, rfl, trivial⟩, rfl, h0198⟩ ?_
    rintro ⟨s_157, k_158, w159⟩ a196 w_ ⟨hA196, hw_, hJ200⟩
    have hw_ : w159 = w_ := hw_.symm
    subst hw_
    have ht199 := ht197 s_157 k_158 _ hJ200
    refine wp_seq ?_
    refine wp_seq ?_
    refine wp_region_lit ?_
    refine sq (opk_val hA196 rfl (r_move (hA196.get rfl)) fun a201 hA201 _ => ?_)
    refine sq (opk_val hA201 rfl (r_lss (hA201.get rfl) rfl) fun a202 hA202 _ => ?_)
    refine sq_end ?_
    have hA203 := hA202.keep [(1, Sl.v b_2), (5, .int .u32 s_157), (6, .int .i64 i_12), (7, .int .i64 k_158), (25, .bool (decide (k_158 < 8)))] ⟨rfl, rfl, rfl, rfl, rfl, trivial⟩
    refine then_normal ?_
    refine wp_cond_split (hA203.get rfl) (fun hc => ?_) (fun hc => ?_)
    · have ht204 := ht199.1 (of_decide_eq_true hc)
      clear hc
      refine wp_skip ?_
      refine then_normal ?_
      refine wp_seq ?_
      refine wp_block ?_
      refine wp_seq ?_
      refine wp_region_lit ?_
      refine sq (opk_val hA203 rfl (r_move (hA203.get rfl)) fun a206 hA206 _ => ?_)
      refine sq (opk_val hA206 rfl (r_and (hA206.get rfl) rfl) fun a207 hA207 _ => ?_)
      refine sq (opk_val hA207 rfl (r_assign (hA207.get rfl)) fun a208 hA208 _ => ?_)
      refine sq_end ?_
      have hA209 := hA208.keep [(1, Sl.v b_2), (5, .int .u32 s_157), (6, .int .i64 i_12), (7, .int .i64 k_158), (8, .int .u32 (bits .and .u32 s_157 1))] ⟨rfl, rfl, rfl, rfl, rfl, trivial⟩
      refine then_normal ?_
      refine wp_seq ?_
      refine wp_region_lit ?_
      refine sq (opk_val hA209 rfl (r_move (hA209.get rfl)) fun a210 hA210 _ => ?_)
      refine sq (opk_val hA210 rfl (r_shr (hA210.get rfl) rfl (by decide) (by decide)) fun a211 hA211 _ => ?_)
      refine sq (opk_val hA211 rfl (r_assign (hA211.get rfl)) fun a212 hA212 _ => ?_)
      refine sq_end ?_
      have hA213 := hA212.keep [(1, Sl.v b_2), (5, .int .u32 (s_157 / 2 ^ 1)), (6, .int .i64 i_12), (7, .int .i64 k_158), (8, .int .u32 (bits .and .u32 s_157 1))] ⟨rfl, rfl, rfl, rfl, rfl, trivial⟩
      refine then_normal ?_
      refine wp_seq ?_
      refine wp_region_lit ?_
      refine sq (opk_val hA213 rfl (r_move (hA213.get rfl)) fun a214 hA214 _ => ?_)
      refine sq (opk_val hA214 rfl (r_eql (hA214.get rfl) rfl) fun a215 hA215 _ => ?_)
      refine sq_end ?_
      have hA216 := hA215.keep [(1, Sl.v b_2), (5, .int .u32 (s_157 / 2 ^ 1)), (6, .int .i64 i_12), (7, .int .i64 k_158), (33, .bool (decide ((bits .and .u32 s_157 1) = 1)))] ⟨rfl, rfl, rfl, rfl, rfl, trivial⟩
      refine then_normal ?_
      refine wp_meet (fun a w => Ag 38 a [(1, Sl.v b_2), (5, .int .u32 (bif decide ((bits .and .u32 s_157 1) = 1) then bits .xor .u32 (s_157 / 2 ^ 1) 3988292384 else s_157 / 2 ^ 1)), (6, .int .i64 i_12), (7, .int .i64 k_158)] ∧ w = w159) ?_ ?_
      · refine wp_cond_split (hA216.get rfl) (fun hc => ?_) (fun hc => ?_)
        · refine wp_region_lit ?_
          refine sq (opk_val hA216 rfl (r_move (hA216.get rfl)) fun a221 hA221 _ => ?_)
          refine sq (opk_val hA221 rfl (r_xor (hA221.get rfl) rfl) fun a222 hA222 _ => ?_)
          refine sq (opk_val hA222 rfl (r_assign (hA222.get rfl)) fun a223 hA223 _ => ?_)
          refine sq_end ?_
          have hA224 := hA223.keep [(1, Sl.v b_2), (5, .int .u32 (bits .xor .u32 (s_157 / 2 ^ 1) 3988292384)), (6, .int .i64 i_12), (7, .int .i64 k_158)] ⟨rfl, rfl, rfl, rfl, trivial⟩
          have hA225 := hA224.say (t := 5) rfl (.int .u32 (bif decide ((bits .and .u32 s_157 1) = 1) then bits .xor .u32 (s_157 / 2 ^ 1) 3988292384 else s_157 / 2 ^ 1)) (by rw [hc]; rfl)
          exact then_normal ⟨hA225.keep [(1, Sl.v b_2), (5, .int .u32 (bif decide ((bits .and .u32 s_157 1) = 1) then bits .xor .u32 (s_157 / 2 ^ 1) 3988292384 else s_157 / 2 ^ 1)), (6, .int .i64 i_12), (7, .int .i64 k_158)] ⟨rfl, rfl, rfl, rfl, trivial⟩, rfl⟩
        · refine wp_skip ?_
          have hA226 := hA216.say (t := 5) rfl (.int .u32 (bif decide ((bits .and .u32 s_157 1) = 1) then bits .xor .u32 (s_157 / 2 ^ 1) 3988292384 else s_157 / 2 ^ 1)) (by rw [hc]; rfl)
          exact then_normal ⟨hA226.keep [(1, Sl.v b_2), (5, .int .u32 (bif decide ((bits .and .u32 s_157 1) = 1) then bits .xor .u32 (s_157 / 2 ^ 1) 3988292384 else s_157 / 2 ^ 1)), (6, .int .i64 i_12), (7, .int .i64 k_158)] ⟨rfl, rfl, rfl, rfl, trivial⟩, rfl⟩
      · rintro a227 w_ ⟨hA227, hw_⟩
        have hw_ : w159 = w_ := hw_.symm
        subst hw_
        refine block_normal ?_
        refine then_normal ?_
        refine wp_region_lit ?_
        refine sq (opk_val hA227 rfl (r_move (hA227.get rfl)) fun a228 hA228 _ => ?_)
        obtain ⟨hS230, ht231⟩ := ht204
        refine sq (opk_val hA228 rfl (r_addI (hA228.get rfl) rfl hS230) fun a229 hA229 _ => ?_)
        refine sq (opk_val hA229 rfl (r_assign (hA229.get rfl)) fun a232 hA232 _ => ?_)
        refine sq_end ?_
        have hA233 := hA232.keep [(1, Sl.v b_2), (5, .int .u32 (bif decide ((bits .and .u32 s_157 1) = 1) then bits .xor .u32 (s_157 / 2 ^ 1) 3988292384 else s_157 / 2 ^ 1)), (6, .int .i64 i_12), (7, .int .i64 (k_158 + 1))] ⟨rfl, rfl, rfl, rfl, trivial⟩
        have hA234 := hA233.keep [(1, Sl.v b_2), (5, .int .u32 (bif decide ((bits .and .u32 s_157 1) = 1) then bits .xor .u32 (s_157 / 2 ^ 1) 3988292384 else s_157 / 2 ^ 1)), (6, .int .i64 i_12), (7, .int .i64 (k_158 + 1))] ⟨rfl, rfl, rfl, rfl, trivial⟩
        exact then_normal ⟨((bif decide ((bits .and .u32 s_157 1) = 1) then bits .xor .u32 (s_157 / 2 ^ 1) 3988292384 else s_157 / 2 ^ 1), k_158 + 1, w159), ⟨hA234, rfl, ht231.1⟩, ht231.2⟩
    · have ht205 := ht199.2 (of_decide_eq_false hc)
      clear hc
      refine wp_exit ?_
      refine then_exit ?_
      refine then_exit ?_
      refine block_hit ?_
      have hA235 := hA203.keep [(1, Sl.v b_2), (5, .int .u32 s_157), (6, .int .i64 i_12)] ⟨rfl, rfl, rfl, trivial⟩
      refine block_normal ?_
      refine then_normal ?_
      refine wp_region_lit ?_
      refine sq (opk_val hA235 rfl (r_move (hA235.get rfl)) fun a236 hA236 _ => ?_)
      obtain ⟨hS238, ht239⟩ := ht205
      refine sq (opk_val hA236 rfl (r_addI (hA236.get rfl) rfl hS238) fun a237 hA237 _ => ?_)
      refine sq (opk_val hA237 rfl (r_assign (hA237.get rfl)) fun a240 hA240 _ => ?_)
      refine sq_end ?_
      have hA241 := hA240.keep [(1, Sl.v b_2), (5, .int .u32 s_157), (6, .int .i64 (i_12 + 1))] ⟨rfl, rfl, rfl, trivial⟩
      have hA242 := hA241.keep [(1, Sl.v b_2), (5, .int .u32 s_157), (6, .int .i64 (i_12 + 1))] ⟨rfl, rfl, rfl, trivial⟩
      exact then_normal ⟨(s_157, i_12 + 1, w159), ⟨hA242, rfl, ht239.1⟩, ht239.2⟩
  · have ht138 := ht130.2 (of_decide_eq_false hc)
    clear hc
    refine wp_exit ?_
    refine then_exit ?_
    refine then_exit ?_
    refine block_hit ?_
    have hA243 := hA136.keep [(5, .int .u32 s_11)] ⟨rfl, trivial⟩
    refine then_normal ?_
    refine wp_seq ?_
    refine wp_region_lit ?_
    refine sq (opk_val hA243 rfl (r_move (hA243.get rfl)) fun a244 hA244 _ => ?_)
    refine sq (opk_val hA244 rfl (r_xor (hA244.get rfl) rfl) fun a245 hA245 _ => ?_)
    refine sq (opk_val hA245 rfl (r_assign (hA245.get rfl)) fun a246 hA246 _ => ?_)
    refine sq_end ?_
    have hA247 := hA246.keep [(4, .int .u32 (bits .xor .u32 s_11 4294967295))] ⟨rfl, trivial⟩
    refine then_normal ?_
    refine wp_ret ?_
    exact res_all (vs := [.int .u32 (bits .xor .u32 s_11 4294967295)]) rfl hA247 ⟨res_of_tmp hA247 rfl, trivial⟩ ht138

/-- The condition of topiary/crc.Of. -/
def crc_Of.vc (b_1 : Sl) (R : Value → World → Prop) (w : World) : Prop :=
CallK Try.prog 12 #[.int .u32 0, Sl.v b_1] w [] (fun v w7 => ∃ (r_5 : Int), v = .int .u32 r_5 ∧
R (.int .u32 r_5) w7)
set_option maxHeartbeats 1000000 in
set_option maxRecDepth 10000 in
theorem crc_Of.ok (b_1 : Sl) {R : Value → World → Prop} {w : World} (ht0 : crc_Of.vc b_1 R w) : Calls Try.prog 14 #[Sl.v b_1] w (Ret R) := by
  refine enter [Sl.v b_1] Try.func14 rfl Try.ntmps14 rfl ?_
  intro a0 hA0
  unfold crc_Of.vc at ht0
  refine wp_seq ?_
  refine wp_region_lit ?_
  refine sq (opk_val hA0 rfl (r_assign rfl) fun a2 hA2 _ => ?_)
  refine sq_end ?_
  have hA3 := hA2.keep [(0, Sl.v b_1)] ⟨rfl, trivial⟩
  refine then_normal ?_
  refine wp_seq ?_
  refine wp_region_lit ?_
  refine sq (opk_val hA3 rfl (r_move (hA3.get rfl)) fun a4 hA4 _ => ?_)
  refine sq (opk_call hA4 rfl (r_call (args := #[.int .u32 0, Sl.v b_1]) Try.func12 (by decide) rfl (map_arr (ml_cons rfl (ml_cons (hA4.get rfl) ml_nil))) rfl) ht0 fun a6 v12 w7 hA6 _ hn9 hz10 hK11 => ?_)
  obtain ⟨r_5, rfl, ht8⟩ := hK11
  refine sq (opk_val hA6 rfl (r_assign (hA6.get rfl)) fun a13 hA13 _ => ?_)
  refine sq_end ?_
  have hA14 := hA13.keep [(2, .int .u32 r_5)] ⟨rfl, trivial⟩
  refine then_normal ?_
  refine wp_ret ?_
  exact res_all (vs := [.int .u32 r_5]) rfl hA14 ⟨res_of_tmp hA14 rfl, trivial⟩ ht8

/-- The condition of topiary/topiarylaw02.awake. -/
def law02_awake.vc  (R : Value → World → Prop) (w : World) : Prop :=
∀ (w4 : World) (B_3 : Nat), New w B_3 w4 → Chg [] w w4 →
Box w4 B_3 5 [.int .u8 49, .int .u8 50, .int .u8 51, .int .u8 52, .int .u8 53, .int .u8 54, .int .u8 55, .int .u8 56, .int .u8 57] →
RunK Try.prog (convert 23 23 (Sl.v ⟨some ⟨B_3, 0, none⟩, 9, 9⟩)) w4 [] (fun v w14 => ∃ (r_20 : Sl), v = Sl.v r_20 ∧
CallK Try.prog 14 #[Sl.v r_20] w14 [] (fun v w23 => ∃ (r_21 : Int), v = .int .u32 r_21 ∧
∃ (r_31 : Int), (((r_21 = 3421780262)) → Calls Try.prog 14 #[Sl.v Sl.nil] w23 (Ret fun v w' => Ext w23 w' ∧ v = .int .u32 r_31)) ∧
(∀ w33 : World, Ext w23 w33 →
R (.bool ((decide (r_21 = 3421780262)) && (decide (r_31 = 0)))) w33)))
set_option maxHeartbeats 1000000 in
set_option maxRecDepth 10000 in
theorem law02_awake.ok  {R : Value → World → Prop} {w : World} (ht0 : law02_awake.vc  R w) : Calls Try.prog 15 #[] w (Ret R) := by
  refine enter [] Try.func15 rfl Try.ntmps15 rfl ?_
  intro a0 hA0
  unfold law02_awake.vc at ht0
  refine wp_seq ?_
  refine wp_region_lit ?_
  refine sq (opk_val hA0 rfl (r_assign rfl) fun a1 hA1 _ => ?_)
  refine sq_end ?_
  have hA2 := hA1.keep [] trivial
  refine then_normal ?_
  refine wp_seq ?_
  refine wp_region_lit ?_
  refine sq (opk_new (fun B => .slice (some ⟨B, 0, none⟩) 9 9) hA2 rfl (r_buildSlice (vs := #[(0, .int .u8 49), (1, .int .u8 50), (2, .int .u8 51), (3, .int .u8 52), (4, .int .u8 53), (5, .int .u8 54), (6, .int .u8 55), (7, .int .u8 56), (8, .int .u8 57)]) (cs := [.int .u8 49, .int .u8 50, .int .u8 51, .int .u8 52, .int .u8 53, .int .u8 54, .int .u8 55, .int .u8 56, .int .u8 57]) (map_arr2 (ml2_cons rfl (ml2_cons rfl (ml2_cons rfl (ml2_cons rfl (ml2_cons rfl (ml2_cons rfl (ml2_cons rfl (ml2_cons rfl (ml2_cons rfl (ml2_nil))))))))))) Try.underlying23 ti_5 rfl rfl (by kernel_rfl)) fun a5 w4 B_3 hE6 hN7 hB8 hA5 _ => ?_)
  have hN9 : New w B_3 w4 := hN7
  have hC10 : Chg [] w w4 := hE6
  have ht11 := ht0 w4 B_3 hN9 hC10
  have ht12 := ht11 hB8
  refine sq (opk_run hA5 rfl (fun _ _ hr => r_convR (hA5.get rfl) hr) ht12 fun a13 v19 w14 hA13 _ hn16 hz17 hK18 => ?_)
  obtain ⟨r_20, rfl, ht15⟩ := hK18
  refine sq (opk_call hA13 rfl (r_call (args := #[Sl.v r_20]) Try.func14 (by decide) rfl (map_arr (ml_cons (hA13.get rfl) ml_nil)) rfl) ht15 fun a22 v28 w23 hA22 _ hn25 hz26 hK27 => ?_)
  obtain ⟨r_21, rfl, ht24⟩ := hK27
  refine sq (opk_val hA22 rfl (r_eql (hA22.get rfl) rfl) fun a29 hA29 _ => ?_)
  refine sq (opk_val hA29 rfl (r_move (hA29.get rfl)) fun a30 hA30 _ => ?_)
  obtain ⟨r_31, hc35, ht34⟩ := ht24
  refine sq (opk_gcall hA30 rfl rfl (g := true) (e := (decide (r_21 = 3421780262))) rfl (fun hg => r_call (args := #[Sl.v Sl.nil]) Try.func14 (by decide) rfl (map_arr (ml_cons rfl ml_nil)) rfl) (fun hg => hc35 (of_decide_eq_true (g_t hg))) fun a32 w33 hA32 _ hE36 => ?_)
  have hC37 : Chg [] w23 w33 := hE36
  have ht38 := ht34 w33 hE36
  refine sq (opk_gval hA32 rfl rfl (g := true) (e := (decide (r_21 = 3421780262))) rfl (fun hg => r_eql (cv_get (hA32.get rfl) hg) rfl) fun a39 hA39 _ => ?_)
  refine sq (opk_val hA39 rfl (r_pick_and (g := (true && ((decide (r_21 = 3421780262)) == true))) (hA39.get rfl) (hA39.get rfl) (fun he => g_mkt rfl he)) fun a40 hA40 _ => ?_)
  refine sq (opk_val hA40 rfl (r_assign (hA40.get rfl)) fun a41 hA41 _ => ?_)
  refine sq_end ?_
  have hA42 := hA41.keep [(0, .bool ((decide (r_21 = 3421780262)) && (decide (r_31 = 0))))] ⟨rfl, trivial⟩
  refine then_normal ?_
  refine wp_ret ?_
  exact res_all (vs := [.bool ((decide (r_21 = 3421780262)) && (decide (r_31 = 0)))]) rfl hA42 ⟨res_of_tmp hA42 rfl, trivial⟩ ht38

/-- The condition of topiary/topiarylaw00.Place. -/
def law00_Place.vc (v_1 : Int) (n_2 : Int) (R : Value → World → Prop) (w : World) : Prop :=
(n_2 ≠ 0) ∧
(((v_1.tmod n_2) < 0) →
(I64 ((v_1.tmod n_2) + n_2)) ∧
R (.int .i64 ((v_1.tmod n_2) + n_2)) w) ∧
((¬ ((v_1.tmod n_2) < 0)) →
R (.int .i64 (v_1.tmod n_2)) w)
set_option maxHeartbeats 1000000 in
set_option maxRecDepth 10000 in
theorem law00_Place.ok (v_1 : Int) (n_2 : Int) {R : Value → World → Prop} {w : World} (ht0 : law00_Place.vc v_1 n_2 R w) : Calls Try.prog 16 #[.int .i64 v_1, .int .i64 n_2] w (Ret R) := by
  refine enter [.int .i64 v_1, .int .i64 n_2] Try.func16 rfl Try.ntmps16 rfl ?_
  intro a0 hA0
  unfold law00_Place.vc at ht0
  refine wp_seq ?_
  refine wp_region_lit ?_
  refine sq (opk_val hA0 rfl (r_assign rfl) fun a3 hA3 _ => ?_)
  refine sq_end ?_
  have hA4 := hA3.keep [(0, .int .i64 v_1), (1, .int .i64 n_2)] ⟨rfl, rfl, trivial⟩
  refine then_normal ?_
  refine wp_seq ?_
  refine wp_region_lit ?_
  refine sq (opk_val hA4 rfl (r_move (hA4.get rfl)) fun a5 hA5 _ => ?_)
  refine sq (opk_val hA5 rfl (r_move (hA5.get rfl)) fun a6 hA6 _ => ?_)
  obtain ⟨hS8, ht9⟩ := ht0
  refine sq (opk_val hA6 rfl (r_rem (hA6.get rfl) (hA6.get rfl) hS8) fun a7 hA7 _ => ?_)
  refine sq (opk_val hA7 rfl (r_assign (hA7.get rfl)) fun a10 hA10 _ => ?_)
  refine sq_end ?_
  have hA11 := hA10.keep [(1, .int .i64 n_2), (5, .int .i64 (v_1.tmod n_2))] ⟨rfl, rfl, trivial⟩
  refine then_normal ?_
  refine wp_seq ?_
  refine wp_seq ?_
  refine wp_region_lit ?_
  refine sq (opk_val hA11 rfl (r_move (hA11.get rfl)) fun a12 hA12 _ => ?_)
  refine sq (opk_val hA12 rfl (r_lss (hA12.get rfl) rfl) fun a13 hA13 _ => ?_)
  refine sq_end ?_
  have hA14 := hA13.keep [(1, .int .i64 n_2), (5, .int .i64 (v_1.tmod n_2)), (10, .bool (decide ((v_1.tmod n_2) < 0)))] ⟨rfl, rfl, rfl, trivial⟩
  refine then_normal ?_
  refine wp_cond_split (hA14.get rfl) (fun hc => ?_) (fun hc => ?_)
  · have ht15 := ht9.1 (of_decide_eq_true hc)
    clear hc
    refine wp_region_lit ?_
    refine sq (opk_val hA14 rfl (r_move (hA14.get rfl)) fun a17 hA17 _ => ?_)
    refine sq (opk_val hA17 rfl (r_move (hA17.get rfl)) fun a18 hA18 _ => ?_)
    obtain ⟨hS20, ht21⟩ := ht15
    refine sq (opk_val hA18 rfl (r_addI (hA18.get rfl) (hA18.get rfl) hS20) fun a19 hA19 _ => ?_)
    refine sq (opk_val hA19 rfl (r_assign (hA19.get rfl)) fun a22 hA22 _ => ?_)
    refine sq_end ?_
    have hA23 := hA22.keep [(5, .int .i64 ((v_1.tmod n_2) + n_2))] ⟨rfl, trivial⟩
    refine then_normal ?_
    refine wp_seq ?_
    refine wp_region_lit ?_
    refine sq (opk_val hA23 rfl (r_move (hA23.get rfl)) fun a24 hA24 _ => ?_)
    refine sq (opk_val hA24 rfl (r_assign (hA24.get rfl)) fun a25 hA25 _ => ?_)
    refine sq_end ?_
    have hA26 := hA25.keep [(4, .int .i64 ((v_1.tmod n_2) + n_2))] ⟨rfl, trivial⟩
    refine then_normal ?_
    refine wp_ret ?_
    exact res_all (vs := [.int .i64 ((v_1.tmod n_2) + n_2)]) rfl hA26 ⟨res_of_tmp hA26 rfl, trivial⟩ ht21
  · have ht16 := ht9.2 (of_decide_eq_false hc)
    clear hc
    refine wp_skip ?_
    refine then_normal ?_
    refine wp_seq ?_
    refine wp_region_lit ?_
    refine sq (opk_val hA14 rfl (r_move (hA14.get rfl)) fun a27 hA27 _ => ?_)
    refine sq (opk_val hA27 rfl (r_assign (hA27.get rfl)) fun a28 hA28 _ => ?_)
    refine sq_end ?_
    have hA29 := hA28.keep [(4, .int .i64 (v_1.tmod n_2))] ⟨rfl, trivial⟩
    refine then_normal ?_
    refine wp_ret ?_
    exact res_all (vs := [.int .i64 (v_1.tmod n_2)]) rfl hA29 ⟨res_of_tmp hA29 rfl, trivial⟩ ht16

/-- The condition of topiary/vint.Put. -/
def vint_Put.vc (b_1 : Sl) (v_2 : Int) (R : Value → World → Prop) (w : World) : Prop :=
((0 : Int) ≤ (b_1.n : Int) ∧ ((b_1.n : Int) : Int) ≤ (b_1.n : Int) ∧ (b_1.n : Int) ≤ (b_1.c : Int)) ∧
∃ (J_18 : Sl → Int → World → Prop) (mu_19 : Sl → Int → World → Nat),
J_18 (Sl.cut b_1 1 0 (b_1.n : Int).toNat (b_1.n : Int).toNat) v_2 w ∧
(∀ (b_15 : Sl) (v_16 : Int) (w17 : World), J_18 b_15 v_16 w17 →
((128 ≤ v_16) →
∀ (w69 : World) (B_68 : Nat), New w17 B_68 w69 → Chg [] w17 w69 →
Box w69 B_68 5 [.int .u8 (bits .or .u8 (IntKind.u8.wrap v_16) 128)] →
RunK Try.prog (Builtin.append_ #[23, 23] 23 #[Sl.v b_15, Sl.v ⟨some ⟨B_68, 0, none⟩, 1, 1⟩]) w69 [] (fun v w79 => ∃ (r_85 : Sl), v = Sl.v r_85 ∧
J_18 r_85 (v_16 / 2 ^ 7) w79 ∧ mu_19 r_85 (v_16 / 2 ^ 7) w79 < mu_19 b_15 v_16 w17)) ∧
((¬ (128 ≤ v_16)) →
∀ (w98 : World) (B_97 : Nat), New w17 B_97 w98 → Chg [] w17 w98 →
Box w98 B_97 5 [.int .u8 (IntKind.u8.wrap v_16)] →
RunK Try.prog (Builtin.append_ #[23, 23] 23 #[Sl.v b_15, Sl.v ⟨some ⟨B_97, 0, none⟩, 1, 1⟩]) w98 [] (fun v w108 => ∃ (r_114 : Sl), v = Sl.v r_114 ∧
R (Sl.v r_114) w108)))
set_option maxHeartbeats 1000000 in
set_option maxRecDepth 10000 in
theorem vint_Put.ok (b_1 : Sl) (v_2 : Int) {R : Value → World → Prop} {w : World} (ht0 : vint_Put.vc b_1 v_2 R w) : Calls Try.prog 17 #[Sl.v b_1, .int .u64 v_2] w (Ret R) := by
  refine enter [Sl.v b_1, .int .u64 v_2] Try.func17 rfl Try.ntmps17 rfl ?_
  intro a0 hA0
  unfold vint_Put.vc at ht0
  refine wp_seq ?_
  refine wp_region_lit ?_
  refine sq (opk_val hA0 rfl (r_assign rfl) fun a3 hA3 _ => ?_)
  refine sq_end ?_
  have hA4 := hA3.keep [(0, Sl.v b_1), (1, .int .u64 v_2)] ⟨rfl, rfl, trivial⟩
  refine then_normal ?_
  refine wp_seq ?_
  refine wp_region_lit ?_
  refine sq (opk_val hA4 rfl (r_move (hA4.get rfl)) fun a5 hA5 _ => ?_)
  refine sq (opk_val hA5 rfl (r_move (hA5.get rfl)) fun a6 hA6 _ => ?_)
  refine sq (opk_val hA6 rfl (r_len (hA6.get rfl) Try.underlying23) fun a7 hA7 _ => ?_)
  refine sq (opk_val hA7 rfl (r_move (hA7.get rfl)) fun a8 hA8 _ => ?_)
  refine sq (opk_val hA8 rfl (r_len (hA8.get rfl) Try.underlying23) fun a9 hA9 _ => ?_)
  obtain ⟨hS11, ht12⟩ := ht0
  refine sq (opk_val hA9 rfl (r_slice3H (hA9.get rfl) (hA9.get rfl) (hA9.get rfl) Try.underlying23 ti_5 hS11) fun a10 hA10 _ => ?_)
  refine sq (opk_val hA10 rfl (r_assign (hA10.get rfl)) fun a13 hA13 _ => ?_)
  refine sq_end ?_
  have hA14 := hA13.keep [(0, Sl.v (Sl.cut b_1 1 0 (b_1.n : Int).toNat (b_1.n : Int).toNat)), (1, .int .u64 v_2)] ⟨rfl, rfl, trivial⟩
  refine then_normal ?_
  refine wp_seq ?_
  refine wp_block ?_
  obtain ⟨J_18, mu_19, h056, ht55⟩ := ht12
  refine wp_loop_st (σ := Sl × Int × World) (fun s a w => Ag 26 a [(0, Sl.v s.1), (1, .int .u64 s.2.1)] ∧ w = s.2.2 ∧ J_18 s.1 s.2.1 s.2.2) (fun s => mu_19 s.1 s.2.1 s.2.2) (Sl.cut b_1 1 0 (b_1.n : Int).toNat (b_1.n : Int).toNat, v_2, w) ⟨hA14.keep [(0, Sl.v (Sl.cut b_1 1 0 (b_1.n : Int).toNat (b_1.n : Int).toNat)), (1, .int .u64 v_2)] ⟨rfl, rfl, trivial⟩, rfl, h056⟩ ?_
  rintro ⟨b_15, v_16, w17⟩ a54 w_ ⟨hA54, hw_, hJ58⟩
  have hw_ : w17 = w_ := hw_.symm
  subst hw_
  have ht57 := ht55 b_15 v_16 _ hJ58
  refine wp_seq ?_
  refine wp_seq ?_
  refine wp_region_lit ?_
  refine sq (opk_val hA54 rfl (r_move (hA54.get rfl)) fun a59 hA59 _ => ?_)
  refine sq (opk_val hA59 rfl (r_geq (hA59.get rfl) rfl) fun a60 hA60 _ => ?_)
  refine sq_end ?_
  have hA61 := hA60.keep [(0, Sl.v b_15), (1, .int .u64 v_16), (12, .bool (decide (128 ≤ v_16)))] ⟨rfl, rfl, rfl, trivial⟩
  refine then_normal ?_
  refine wp_cond_split (hA61.get rfl) (fun hc => ?_) (fun hc => ?_)
  · have ht62 := ht57.1 (of_decide_eq_true hc)
    clear hc
    refine wp_skip ?_
    refine then_normal ?_
    refine wp_block ?_
    refine wp_seq ?_
    refine wp_region_lit ?_
    refine sq (opk_val hA61 rfl (r_move (hA61.get rfl)) fun a64 hA64 _ => ?_)
    refine sq (opk_val hA64 rfl (r_move (hA64.get rfl)) fun a65 hA65 _ => ?_)
    refine sq (opk_val hA65 rfl (r_conv (hA65.get rfl) rfl Try.underlying5) fun a66 hA66 _ => ?_)
    refine sq (opk_val hA66 rfl (r_bor (hA66.get rfl) rfl) fun a67 hA67 _ => ?_)
    refine sq (opk_new (fun B => .slice (some ⟨B, 0, none⟩) 1 1) hA67 rfl (r_buildSlice (vs := #[(0, .int .u8 (bits .or .u8 (IntKind.u8.wrap v_16) 128))]) (cs := [.int .u8 (bits .or .u8 (IntKind.u8.wrap v_16) 128)]) (map_arr2 (ml2_cons (hA67.get rfl) (ml2_nil))) Try.underlying23 ti_5 rfl rfl (by kernel_rfl)) fun a70 w69 B_68 hE71 hN72 hB73 hA70 _ => ?_)
    have hN74 : New w17 B_68 w69 := hN72
    have hC75 : Chg [] w17 w69 := hE71
    have ht76 := ht62 w69 B_68 hN74 hC75
    have ht77 := ht76 hB73
    refine sq (opk_run hA70 rfl (fun _ _ hr => r_append (hA70.get rfl) (hA70.get rfl) hr) ht77 fun a78 v84 w79 hA78 _ hn81 hz82 hK83 => ?_)
    obtain ⟨r_85, rfl, ht80⟩ := hK83
    refine sq (opk_val hA78 rfl (r_assign (hA78.get rfl)) fun a86 hA86 _ => ?_)
    refine sq_end ?_
    have hA87 := hA86.keep [(0, Sl.v r_85), (1, .int .u64 v_16)] ⟨rfl, rfl, trivial⟩
    refine then_normal ?_
    refine wp_region_lit ?_
    refine sq (opk_val hA87 rfl (r_move (hA87.get rfl)) fun a88 hA88 _ => ?_)
    refine sq (opk_val hA88 rfl (r_shr (hA88.get rfl) rfl (by decide) (by decide)) fun a89 hA89 _ => ?_)
    refine sq (opk_val hA89 rfl (r_assign (hA89.get rfl)) fun a90 hA90 _ => ?_)
    refine sq_end ?_
    have hA91 := hA90.keep [(0, Sl.v r_85), (1, .int .u64 (v_16 / 2 ^ 7))] ⟨rfl, rfl, trivial⟩
    refine block_normal ?_
    have hA92 := hA91.keep [(0, Sl.v r_85), (1, .int .u64 (v_16 / 2 ^ 7))] ⟨rfl, rfl, trivial⟩
    exact then_normal ⟨(r_85, v_16 / 2 ^ 7, w79), ⟨hA92, rfl, ht80.1⟩, ht80.2⟩
  · have ht63 := ht57.2 (of_decide_eq_false hc)
    clear hc
    refine wp_exit ?_
    refine then_exit ?_
    refine then_exit ?_
    refine block_hit ?_
    have hA93 := hA61.keep [(0, Sl.v b_15), (1, .int .u64 v_16)] ⟨rfl, rfl, trivial⟩
    refine then_normal ?_
    refine wp_seq ?_
    refine wp_region_lit ?_
    refine sq (opk_val hA93 rfl (r_move (hA93.get rfl)) fun a94 hA94 _ => ?_)
    refine sq (opk_val hA94 rfl (r_move (hA94.get rfl)) fun a95 hA95 _ => ?_)
    refine sq (opk_val hA95 rfl (r_conv (hA95.get rfl) rfl Try.underlying5) fun a96 hA96 _ => ?_)
    refine sq (opk_new (fun B => .slice (some ⟨B, 0, none⟩) 1 1) hA96 rfl (r_buildSlice (vs := #[(0, .int .u8 (IntKind.u8.wrap v_16))]) (cs := [.int .u8 (IntKind.u8.wrap v_16)]) (map_arr2 (ml2_cons (hA96.get rfl) (ml2_nil))) Try.underlying23 ti_5 rfl rfl (by kernel_rfl)) fun a99 w98 B_97 hE100 hN101 hB102 hA99 _ => ?_)
    have hN103 : New w17 B_97 w98 := hN101
    have hC104 : Chg [] w17 w98 := hE100
    have ht105 := ht63 w98 B_97 hN103 hC104
    have ht106 := ht105 hB102
    refine sq (opk_run hA99 rfl (fun _ _ hr => r_append (hA99.get rfl) (hA99.get rfl) hr) ht106 fun a107 v113 w108 hA107 _ hn110 hz111 hK112 => ?_)
    obtain ⟨r_114, rfl, ht109⟩ := hK112
    refine sq (opk_val hA107 rfl (r_assign (hA107.get rfl)) fun a115 hA115 _ => ?_)
    refine sq_end ?_
    have hA116 := hA115.keep [(4, Sl.v r_114)] ⟨rfl, trivial⟩
    refine then_normal ?_
    refine wp_ret ?_
    exact res_all (vs := [Sl.v r_114]) rfl hA116 ⟨res_of_tmp hA116 rfl, trivial⟩ ht109

/-- The condition of topiary/vint.Get. -/
def vint_Get.vc (b_1 : Sl) (at_2 : Int) (R : Value → World → Prop) (w : World) : Prop :=
(((at_2 < 0) ∨ ((b_1.n : Int) < at_2)) →
R (.tuple #[.int .u64 0, .int .i64 0, .int .i64 1]) w) ∧
(((¬ (at_2 < 0)) ∧ (¬ ((b_1.n : Int) < at_2))) →
(I64 ((b_1.n : Int) - at_2)) ∧
(I64 (at_2 + (min ((b_1.n : Int) - at_2) 10))) ∧
((0 : Int) ≤ at_2 ∧ (at_2 : Int) ≤ at_2 + (min ((b_1.n : Int) - at_2) 10) ∧ at_2 + (min ((b_1.n : Int) - at_2) 10) ≤ (b_1.c : Int)) ∧
∃ (J_46 : Int → Int → World → Prop) (mu_47 : Int → Int → World → Nat),
J_46 0 0 w ∧
(∀ (v_43 : Int) (x_44 : Int) (w45 : World), J_46 v_43 x_44 w45 →
((x_44 < ((Sl.cut b_1 1 at_2.toNat (at_2 + (min ((b_1.n : Int) - at_2) 10)).toNat b_1.c).n : Int)) →
((0 : Int) ≤ x_44 ∧ x_44 < ((Sl.cut b_1 1 at_2.toNat (at_2 + (min ((b_1.n : Int) - at_2) 10)).toNat b_1.c).n : Int)) ∧ ∃ p_140 : Addr, (Sl.cut b_1 1 at_2.toNat (at_2 + (min ((b_1.n : Int) - at_2) 10)).toNat b_1.c).a = some p_140 ∧
∃ (x_146 : Int), (w45.cell? (p_140.add (x_44.toNat * 1)) = some (.int .u8 x_146)) ∧
(((x_44 = 9) ∧ (1 < x_146)) →
R (.tuple #[.int .u64 0, .int .i64 0, .int .i64 10]) w45) ∧
(((¬ (x_44 = 9)) ∨ (¬ (1 < x_146))) →
(I64 (7 * x_44)) ∧
((0 : Int) ≤ (7 * x_44) ∧ (7 * x_44) ≤ 64) ∧
((128 ≤ x_146) →
(I64 (x_44 + 1)) ∧
J_46 (bits .or .u64 v_43 (IntKind.u64.wrap ((IntKind.u64.wrap (bits .andNot .u8 x_146 128)) * 2 ^ (7 * x_44).toNat))) (x_44 + 1) w45 ∧ mu_47 (bits .or .u64 v_43 (IntKind.u64.wrap ((IntKind.u64.wrap (bits .andNot .u8 x_146 128)) * 2 ^ (7 * x_44).toNat))) (x_44 + 1) w45 < mu_47 v_43 x_44 w45) ∧
((¬ (128 ≤ x_146)) →
(((x_146 = 0) ∧ (0 < x_44)) →
R (.tuple #[.int .u64 0, .int .i64 0, .int .i64 10]) w45) ∧
(((¬ (x_146 = 0)) ∨ (¬ (0 < x_44))) →
(I64 (at_2 + x_44)) ∧
(I64 ((at_2 + x_44) + 1)) ∧
R (.tuple #[.int .u64 (bits .or .u64 v_43 (IntKind.u64.wrap ((IntKind.u64.wrap (bits .andNot .u8 x_146 128)) * 2 ^ (7 * x_44).toNat))), .int .i64 ((at_2 + x_44) + 1), .int .i64 0]) w45)))) ∧
((¬ (x_44 < ((Sl.cut b_1 1 at_2.toNat (at_2 + (min ((b_1.n : Int) - at_2) 10)).toNat b_1.c).n : Int))) →
R (.tuple #[.int .u64 0, .int .i64 0, .int .i64 9]) w45)))
set_option maxHeartbeats 1000000 in
set_option maxRecDepth 10000 in
theorem vint_Get.ok (b_1 : Sl) (at_2 : Int) {R : Value → World → Prop} {w : World} (ht0 : vint_Get.vc b_1 at_2 R w) : Calls Try.prog 18 #[Sl.v b_1, .int .i64 at_2] w (Ret R) := by
  refine enter [Sl.v b_1, .int .i64 at_2] Try.func18 rfl Try.ntmps18 rfl ?_
  intro a0 hA0
  unfold vint_Get.vc at ht0
  refine wp_seq ?_
  refine wp_region_lit ?_
  refine sq (opk_val hA0 rfl (r_assign rfl) fun a3 hA3 _ => ?_)
  refine sq (opk_val hA3 rfl (r_assign rfl) fun a4 hA4 _ => ?_)
  refine sq (opk_val hA4 rfl (r_assign rfl) fun a5 hA5 _ => ?_)
  refine sq_end ?_
  have hA6 := hA5.keep [(0, Sl.v b_1), (1, .int .i64 at_2)] ⟨rfl, rfl, trivial⟩
  refine then_normal ?_
  refine wp_seq ?_
  refine wp_seq ?_
  refine wp_region_lit ?_
  refine sq (opk_val hA6 rfl (r_move (hA6.get rfl)) fun a7 hA7 _ => ?_)
  refine sq (opk_val hA7 rfl (r_lss (hA7.get rfl) rfl) fun a8 hA8 _ => ?_)
  refine sq (opk_val hA8 rfl (r_move (hA8.get rfl)) fun a9 hA9 _ => ?_)
  refine sq (opk_gval hA9 rfl rfl (g := true) (e := (decide (at_2 < 0))) rfl (fun hg => r_move (hA9.get rfl)) fun a10 hA10 _ => ?_)
  refine sq (opk_gval hA10 rfl rfl (g := true) (e := (decide (at_2 < 0))) rfl (fun hg => r_move (hA10.get rfl)) fun a11 hA11 _ => ?_)
  refine sq (opk_gval hA11 rfl rfl (g := true) (e := (decide (at_2 < 0))) rfl (fun hg => r_len (cv_get (hA11.get rfl) hg) Try.underlying23) fun a12 hA12 _ => ?_)
  refine sq (opk_gval hA12 rfl rfl (g := true) (e := (decide (at_2 < 0))) rfl (fun hg => r_gtr (cv_get (hA12.get rfl) hg) (cv_get (hA12.get rfl) hg)) fun a13 hA13 _ => ?_)
  refine sq (opk_val hA13 rfl (r_pick_or (g := (true && ((decide (at_2 < 0)) == false))) (hA13.get rfl) (hA13.get rfl) (fun he => g_mkf rfl he)) fun a14 hA14 _ => ?_)
  refine sq_end ?_
  have hA15 := hA14.keep [(0, Sl.v b_1), (1, .int .i64 at_2), (17, .bool ((decide (at_2 < 0)) || (decide ((b_1.n : Int) < at_2))))] ⟨rfl, rfl, rfl, trivial⟩
  refine then_normal ?_
  refine wp_cond_split (hA15.get rfl) (fun hc => ?_) (fun hc => ?_)
  · have ht16 := ht0.1 ((b_or_t hc).imp (fun h => (of_decide_eq_true h)) (fun h => (of_decide_eq_true h)))
    clear hc
    refine wp_seq ?_
    refine wp_region_lit ?_
    refine sq (opk_val hA15 rfl (r_assign rfl) fun a18 hA18 _ => ?_)
    refine sq (opk_val hA18 rfl (r_assign rfl) fun a19 hA19 _ => ?_)
    refine sq (opk_val hA19 rfl (r_assign rfl) fun a20 hA20 _ => ?_)
    refine sq_end ?_
    have hA21 := hA20.keep [(4, .int .u64 0), (5, .int .i64 0), (6, .int .i64 1)] ⟨rfl, rfl, rfl, trivial⟩
    refine then_normal ?_
    refine wp_ret ?_
    refine then_ret ?_
    exact res_all (vs := [.int .u64 0, .int .i64 0, .int .i64 1]) rfl hA21 ⟨res_of_tmp hA21 rfl, res_of_tmp hA21 rfl, res_of_tmp hA21 rfl, trivial⟩ ht16
  · have ht17 := ht0.2 ⟨(of_decide_eq_false (b_or_f hc).1), (of_decide_eq_false (b_or_f hc).2)⟩
    clear hc
    refine wp_skip ?_
    refine then_normal ?_
    refine wp_seq ?_
    refine wp_region_lit ?_
    refine sq (opk_val hA15 rfl (r_assign rfl) fun a22 hA22 _ => ?_)
    refine sq_end ?_
    have hA23 := hA22.keep [(0, Sl.v b_1), (1, .int .i64 at_2), (7, .int .u64 0)] ⟨rfl, rfl, rfl, trivial⟩
    refine then_normal ?_
    refine wp_seq ?_
    refine wp_seq ?_
    refine wp_region_lit ?_
    refine sq (opk_val hA23 rfl (r_move (hA23.get rfl)) fun a24 hA24 _ => ?_)
    refine sq (opk_val hA24 rfl (r_move (hA24.get rfl)) fun a25 hA25 _ => ?_)
    refine sq (opk_val hA25 rfl (r_move (hA25.get rfl)) fun a26 hA26 _ => ?_)
    refine sq (opk_val hA26 rfl (r_move (hA26.get rfl)) fun a27 hA27 _ => ?_)
    refine sq (opk_val hA27 rfl (r_len (hA27.get rfl) Try.underlying23) fun a28 hA28 _ => ?_)
    refine sq (opk_val hA28 rfl (r_move (hA28.get rfl)) fun a29 hA29 _ => ?_)
    obtain ⟨hS31, ht32⟩ := ht17
    refine sq (opk_val hA29 rfl (r_subI (hA29.get rfl) (hA29.get rfl) hS31) fun a30 hA30 _ => ?_)
    refine sq (opk_val hA30 rfl (r_min (hA30.get rfl) rfl) fun a33 hA33 _ => ?_)
    obtain ⟨hS35, ht36⟩ := ht32
    refine sq (opk_val hA33 rfl (r_addI (hA33.get rfl) (hA33.get rfl) hS35) fun a34 hA34 _ => ?_)
    obtain ⟨hS38, ht39⟩ := ht36
    refine sq (opk_val hA34 rfl (r_slice2 (hA34.get rfl) (hA34.get rfl) (hA34.get rfl) Try.underlying23 ti_5 hS38) fun a37 hA37 _ => ?_)
    refine sq (opk_val hA37 rfl (r_len (hA37.get rfl) Try.underlying23) fun a40 hA40 _ => ?_)
    refine sq (opk_val hA40 rfl (r_move rfl) fun a41 hA41 _ => ?_)
    refine sq_end ?_
    have hA42 := hA41.keep [(1, .int .i64 at_2), (7, .int .u64 0), (27, Sl.v (Sl.cut b_1 1 at_2.toNat (at_2 + (min ((b_1.n : Int) - at_2) 10)).toNat b_1.c)), (28, .int .i64 ((Sl.cut b_1 1 at_2.toNat (at_2 + (min ((b_1.n : Int) - at_2) 10)).toNat b_1.c).n : Int)), (29, .int .i64 0)] ⟨rfl, rfl, rfl, rfl, rfl, trivial⟩
    refine then_normal ?_
    refine wp_block ?_
    obtain ⟨J_46, mu_47, h0132, ht131⟩ := ht39
    refine wp_loop_st (σ := Int × Int × World) (fun s a w => Ag 62 a [(1, .int .i64 at_2), (7, .int .u64 s.1), (27, Sl.v (Sl.cut b_1 1 at_2.toNat (at_2 + (min ((b_1.n : Int) - at_2) 10)).toNat b_1.c)), (28, .int .i64 ((Sl.cut b_1 1 at_2.toNat (at_2 + (min ((b_1.n : Int) - at_2) 10)).toNat b_1.c).n : Int)), (29, .int .i64 s.2.1)] ∧ w = s.2.2 ∧ J_46 s.1 s.2.1 s.2.2) (fun s => mu_47 s.1 s.2.1 s.2.2) (0, 0, w) ⟨hA42.keep [(1, .int .i64 at_2), (7, .int .u64 0), (27, Sl.v (Sl.cut b_1 1 at_2.toNat (at_2 + (min ((b_1.n : Int) - at_2) 10)).toNat b_1.c)), (28, .int .i64 ((Sl.cut b_1 1 at_2.toNat (at_2 + (min ((b_1.n : Int) - at_2) 10)).toNat b_1.c).n : Int)), (29, .int .i64 0)] ⟨rfl, rfl, rfl, rfl, rfl, trivial⟩, rfl, h0132⟩ ?_
    rintro ⟨v_43, x_44, w45⟩ a130 w_ ⟨hA130, hw_, hJ134⟩
    have hw_ : w45 = w_ := hw_.symm
    subst hw_
    have ht133 := ht131 v_43 x_44 _ hJ134
    refine wp_seq ?_
    refine wp_region_lit ?_
    refine sq (opk_val hA130 rfl (r_lss (hA130.get rfl) (hA130.get rfl)) fun a135 hA135 _ => ?_)
    refine sq_end ?_
    have hA136 := hA135.keep [(1, .int .i64 at_2), (7, .int .u64 v_43), (27, Sl.v (Sl.cut b_1 1 at_2.toNat (at_2 + (min ((b_1.n : Int) - at_2) 10)).toNat b_1.c)), (28, .int .i64 ((Sl.cut b_1 1 at_2.toNat (at_2 + (min ((b_1.n : Int) - at_2) 10)).toNat b_1.c).n : Int)), (29, .int .i64 x_44), (30, .bool (decide (x_44 < ((Sl.cut b_1 1 at_2.toNat (at_2 + (min ((b_1.n : Int) - at_2) 10)).toNat b_1.c).n : Int))))] ⟨rfl, rfl, rfl, rfl, rfl, rfl, trivial⟩
    refine then_normal ?_
    refine wp_seq ?_
    refine wp_cond_split (hA136.get rfl) (fun hc => ?_) (fun hc => ?_)
    · have ht137 := ht133.1 (of_decide_eq_true hc)
      clear hc
      refine wp_skip ?_
      refine then_normal ?_
      refine wp_seq ?_
      refine wp_block ?_
      refine wp_seq ?_
      refine wp_region_lit ?_
      refine sq (opk_val hA136 rfl (r_move (hA136.get rfl)) fun a139 hA139 _ => ?_)
      obtain ⟨hb141, p_140, hp142, ht143⟩ := ht137
      refine sq (opk_val hA139 rfl (r_indexAddr (hA139.get rfl) (hA139.get rfl) Try.underlying23 ti_5 hb141 hp142) fun a144 hA144 _ => ?_)
      obtain ⟨x_146, hx147, ht148⟩ := ht143
      refine sq (opk_val hA144 rfl (r_load1 Try.underlying5 rfl (hA144.get rfl) hx147) fun a145 hA145 _ => ?_)
      refine sq (opk_val hA145 rfl (r_assign (hA145.get rfl)) fun a149 hA149 _ => ?_)
      refine sq (opk_val hA149 rfl (r_assign (hA149.get rfl)) fun a150 hA150 _ => ?_)
      refine sq_end ?_
      have hA151 := hA150.keep [(1, .int .i64 at_2), (7, .int .u64 v_43), (8, .int .i64 x_44), (9, .int .u8 x_146), (27, Sl.v (Sl.cut b_1 1 at_2.toNat (at_2 + (min ((b_1.n : Int) - at_2) 10)).toNat b_1.c)), (28, .int .i64 ((Sl.cut b_1 1 at_2.toNat (at_2 + (min ((b_1.n : Int) - at_2) 10)).toNat b_1.c).n : Int)), (29, .int .i64 x_44)] ⟨rfl, rfl, rfl, rfl, rfl, rfl, rfl, trivial⟩
      refine then_normal ?_
      refine wp_seq ?_
      refine wp_seq ?_
      refine wp_region_lit ?_
      refine sq (opk_val hA151 rfl (r_move (hA151.get rfl)) fun a152 hA152 _ => ?_)
      refine sq (opk_val hA152 rfl (r_eql (hA152.get rfl) rfl) fun a153 hA153 _ => ?_)
      refine sq (opk_val hA153 rfl (r_move (hA153.get rfl)) fun a154 hA154 _ => ?_)
      refine sq (opk_gval hA154 rfl rfl (g := true) (e := (decide (x_44 = 9))) rfl (fun hg => r_move (hA154.get rfl)) fun a155 hA155 _ => ?_)
      refine sq (opk_gval hA155 rfl rfl (g := true) (e := (decide (x_44 = 9))) rfl (fun hg => r_gtr (cv_get (hA155.get rfl) hg) rfl) fun a156 hA156 _ => ?_)
      refine sq (opk_val hA156 rfl (r_pick_and (g := (true && ((decide (x_44 = 9)) == true))) (hA156.get rfl) (hA156.get rfl) (fun he => g_mkt rfl he)) fun a157 hA157 _ => ?_)
      refine sq_end ?_
      have hA158 := hA157.keep [(1, .int .i64 at_2), (7, .int .u64 v_43), (8, .int .i64 x_44), (9, .int .u8 x_146), (27, Sl.v (Sl.cut b_1 1 at_2.toNat (at_2 + (min ((b_1.n : Int) - at_2) 10)).toNat b_1.c)), (28, .int .i64 ((Sl.cut b_1 1 at_2.toNat (at_2 + (min ((b_1.n : Int) - at_2) 10)).toNat b_1.c).n : Int)), (29, .int .i64 x_44), (39, .bool ((decide (x_44 = 9)) && (decide (1 < x_146))))] ⟨rfl, rfl, rfl, rfl, rfl, rfl, rfl, rfl, trivial⟩
      refine then_normal ?_
      refine wp_cond_split (hA158.get rfl) (fun hc => ?_) (fun hc => ?_)
      · have ht159 := ht148.1 ⟨(of_decide_eq_true (b_and_t hc).1), (of_decide_eq_true (b_and_t hc).2)⟩
        clear hc
        refine wp_seq ?_
        refine wp_region_lit ?_
        refine sq (opk_val hA158 rfl (r_assign rfl) fun a161 hA161 _ => ?_)
        refine sq (opk_val hA161 rfl (r_assign rfl) fun a162 hA162 _ => ?_)
        refine sq (opk_val hA162 rfl (r_assign rfl) fun a163 hA163 _ => ?_)
        refine sq_end ?_
        have hA164 := hA163.keep [(4, .int .u64 0), (5, .int .i64 0), (6, .int .i64 10)] ⟨rfl, rfl, rfl, trivial⟩
        refine then_normal ?_
        refine wp_ret ?_
        refine then_ret ?_
        refine block_ret ?_
        refine then_ret ?_
        refine then_ret ?_
        refine block_ret ?_
        refine then_ret ?_
        exact res_all (vs := [.int .u64 0, .int .i64 0, .int .i64 10]) rfl hA164 ⟨res_of_tmp hA164 rfl, res_of_tmp hA164 rfl, res_of_tmp hA164 rfl, trivial⟩ ht159
      · have ht160 := ht148.2 ((b_and_f hc).imp (fun h => (of_decide_eq_false h)) (fun h => (of_decide_eq_false h)))
        clear hc
        refine wp_skip ?_
        refine then_normal ?_
        refine wp_seq ?_
        refine wp_region_lit ?_
        refine sq (opk_val hA158 rfl (r_move (hA158.get rfl)) fun a165 hA165 _ => ?_)
        refine sq (opk_val hA165 rfl (r_move (hA165.get rfl)) fun a166 hA166 _ => ?_)
        refine sq (opk_val hA166 rfl (r_andNot (hA166.get rfl) rfl) fun a167 hA167 _ => ?_)
        refine sq (opk_val hA167 rfl (r_conv (hA167.get rfl) rfl Try.underlying31) fun a168 hA168 _ => ?_)
        refine sq (opk_val hA168 rfl (r_move (hA168.get rfl)) fun a169 hA169 _ => ?_)
        obtain ⟨hS171, ht172⟩ := ht160
        refine sq (opk_val hA169 rfl (r_mulI rfl (hA169.get rfl) hS171) fun a170 hA170 _ => ?_)
        obtain ⟨hS174, ht175⟩ := ht172
        refine sq (opk_val hA170 rfl (r_shl (hA170.get rfl) (hA170.get rfl) hS174.1 hS174.2) fun a173 hA173 _ => ?_)
        refine sq (opk_val hA173 rfl (r_bor (hA173.get rfl) (hA173.get rfl)) fun a176 hA176 _ => ?_)
        refine sq (opk_val hA176 rfl (r_assign (hA176.get rfl)) fun a177 hA177 _ => ?_)
        refine sq_end ?_
        have hA178 := hA177.keep [(1, .int .i64 at_2), (7, .int .u64 (bits .or .u64 v_43 (IntKind.u64.wrap ((IntKind.u64.wrap (bits .andNot .u8 x_146 128)) * 2 ^ (7 * x_44).toNat)))), (8, .int .i64 x_44), (9, .int .u8 x_146), (27, Sl.v (Sl.cut b_1 1 at_2.toNat (at_2 + (min ((b_1.n : Int) - at_2) 10)).toNat b_1.c)), (28, .int .i64 ((Sl.cut b_1 1 at_2.toNat (at_2 + (min ((b_1.n : Int) - at_2) 10)).toNat b_1.c).n : Int)), (29, .int .i64 x_44)] ⟨rfl, rfl, rfl, rfl, rfl, rfl, rfl, trivial⟩
        refine then_normal ?_
        refine wp_seq ?_
        refine wp_seq ?_
        refine wp_region_lit ?_
        refine sq (opk_val hA178 rfl (r_move (hA178.get rfl)) fun a179 hA179 _ => ?_)
        refine sq (opk_val hA179 rfl (r_geq (hA179.get rfl) rfl) fun a180 hA180 _ => ?_)
        refine sq_end ?_
        have hA181 := hA180.keep [(1, .int .i64 at_2), (7, .int .u64 (bits .or .u64 v_43 (IntKind.u64.wrap ((IntKind.u64.wrap (bits .andNot .u8 x_146 128)) * 2 ^ (7 * x_44).toNat)))), (8, .int .i64 x_44), (9, .int .u8 x_146), (27, Sl.v (Sl.cut b_1 1 at_2.toNat (at_2 + (min ((b_1.n : Int) - at_2) 10)).toNat b_1.c)), (28, .int .i64 ((Sl.cut b_1 1 at_2.toNat (at_2 + (min ((b_1.n : Int) - at_2) 10)).toNat b_1.c).n : Int)), (29, .int .i64 x_44), (49, .bool (decide (128 ≤ x_146)))] ⟨rfl, rfl, rfl, rfl, rfl, rfl, rfl, rfl, trivial⟩
        refine then_normal ?_
        refine wp_cond_split (hA181.get rfl) (fun hc => ?_) (fun hc => ?_)
        · have ht182 := ht175.1 (of_decide_eq_true hc)
          clear hc
          refine wp_exit ?_
          refine then_exit ?_
          refine block_hit ?_
          have hA184 := hA181.keep [(1, .int .i64 at_2), (7, .int .u64 (bits .or .u64 v_43 (IntKind.u64.wrap ((IntKind.u64.wrap (bits .andNot .u8 x_146 128)) * 2 ^ (7 * x_44).toNat)))), (27, Sl.v (Sl.cut b_1 1 at_2.toNat (at_2 + (min ((b_1.n : Int) - at_2) 10)).toNat b_1.c)), (28, .int .i64 ((Sl.cut b_1 1 at_2.toNat (at_2 + (min ((b_1.n : Int) - at_2) 10)).toNat b_1.c).n : Int)), (29, .int .i64 x_44)] ⟨rfl, rfl, rfl, rfl, rfl, trivial⟩
          refine then_normal ?_
          refine wp_region_lit ?_
          obtain ⟨hS186, ht187⟩ := ht182
          refine sq (opk_val hA184 rfl (r_addI (hA184.get rfl) rfl hS186) fun a185 hA185 _ => ?_)
          refine sq (opk_val hA185 rfl (r_move (hA185.get rfl)) fun a188 hA188 _ => ?_)
          refine sq_end ?_
          have hA189 := hA188.keep [(1, .int .i64 at_2), (7, .int .u64 (bits .or .u64 v_43 (IntKind.u64.wrap ((IntKind.u64.wrap (bits .andNot .u8 x_146 128)) * 2 ^ (7 * x_44).toNat)))), (27, Sl.v (Sl.cut b_1 1 at_2.toNat (at_2 + (min ((b_1.n : Int) - at_2) 10)).toNat b_1.c)), (28, .int .i64 ((Sl.cut b_1 1 at_2.toNat (at_2 + (min ((b_1.n : Int) - at_2) 10)).toNat b_1.c).n : Int)), (29, .int .i64 (x_44 + 1))] ⟨rfl, rfl, rfl, rfl, rfl, trivial⟩
          have hA190 := hA189.keep [(1, .int .i64 at_2), (7, .int .u64 (bits .or .u64 v_43 (IntKind.u64.wrap ((IntKind.u64.wrap (bits .andNot .u8 x_146 128)) * 2 ^ (7 * x_44).toNat)))), (27, Sl.v (Sl.cut b_1 1 at_2.toNat (at_2 + (min ((b_1.n : Int) - at_2) 10)).toNat b_1.c)), (28, .int .i64 ((Sl.cut b_1 1 at_2.toNat (at_2 + (min ((b_1.n : Int) - at_2) 10)).toNat b_1.c).n : Int)), (29, .int .i64 (x_44 + 1))] ⟨rfl, rfl, rfl, rfl, rfl, trivial⟩
          exact then_normal ⟨(bits .or .u64 v_43 (IntKind.u64.wrap ((IntKind.u64.wrap (bits .andNot .u8 x_146 128)) * 2 ^ (7 * x_44).toNat)), x_44 + 1, w45), ⟨hA190, rfl, ht187.1⟩, ht187.2⟩
        · have ht183 := ht175.2 (of_decide_eq_false hc)
          clear hc
          refine wp_skip ?_
          refine then_normal ?_
          refine wp_seq ?_
          refine wp_seq ?_
          refine wp_region_lit ?_
          refine sq (opk_val hA181 rfl (r_move (hA181.get rfl)) fun a191 hA191 _ => ?_)
          refine sq (opk_val hA191 rfl (r_eql (hA191.get rfl) rfl) fun a192 hA192 _ => ?_)
          refine sq (opk_val hA192 rfl (r_move (hA192.get rfl)) fun a193 hA193 _ => ?_)
          refine sq (opk_gval hA193 rfl rfl (g := true) (e := (decide (x_146 = 0))) rfl (fun hg => r_move (hA193.get rfl)) fun a194 hA194 _ => ?_)
          refine sq (opk_gval hA194 rfl rfl (g := true) (e := (decide (x_146 = 0))) rfl (fun hg => r_gtr (cv_get (hA194.get rfl) hg) rfl) fun a195 hA195 _ => ?_)
          refine sq (opk_val hA195 rfl (r_pick_and (g := (true && ((decide (x_146 = 0)) == true))) (hA195.get rfl) (hA195.get rfl) (fun he => g_mkt rfl he)) fun a196 hA196 _ => ?_)
          refine sq_end ?_
          have hA197 := hA196.keep [(1, .int .i64 at_2), (7, .int .u64 (bits .or .u64 v_43 (IntKind.u64.wrap ((IntKind.u64.wrap (bits .andNot .u8 x_146 128)) * 2 ^ (7 * x_44).toNat)))), (8, .int .i64 x_44), (55, .bool ((decide (x_146 = 0)) && (decide (0 < x_44))))] ⟨rfl, rfl, rfl, rfl, trivial⟩
          refine then_normal ?_
          refine wp_cond_split (hA197.get rfl) (fun hc => ?_) (fun hc => ?_)
          · have ht198 := ht183.1 ⟨(of_decide_eq_true (b_and_t hc).1), (of_decide_eq_true (b_and_t hc).2)⟩
            clear hc
            refine wp_seq ?_
            refine wp_region_lit ?_
            refine sq (opk_val hA197 rfl (r_assign rfl) fun a200 hA200 _ => ?_)
            refine sq (opk_val hA200 rfl (r_assign rfl) fun a201 hA201 _ => ?_)
            refine sq (opk_val hA201 rfl (r_assign rfl) fun a202 hA202 _ => ?_)
            refine sq_end ?_
            have hA203 := hA202.keep [(4, .int .u64 0), (5, .int .i64 0), (6, .int .i64 10)] ⟨rfl, rfl, rfl, trivial⟩
            refine then_normal ?_
            refine wp_ret ?_
            refine then_ret ?_
            refine block_ret ?_
            refine then_ret ?_
            refine then_ret ?_
            refine block_ret ?_
            refine then_ret ?_
            exact res_all (vs := [.int .u64 0, .int .i64 0, .int .i64 10]) rfl hA203 ⟨res_of_tmp hA203 rfl, res_of_tmp hA203 rfl, res_of_tmp hA203 rfl, trivial⟩ ht198
          · have ht199 := ht183.2 ((b_and_f hc).imp (fun h => (of_decide_eq_false h)) (fun h => (of_decide_eq_false h)))
            clear hc
            refine wp_skip ?_
            refine then_normal ?_
            refine wp_seq ?_
            refine wp_region_lit ?_
            refine sq (opk_val hA197 rfl (r_move (hA197.get rfl)) fun a204 hA204 _ => ?_)
            refine sq (opk_val hA204 rfl (r_move (hA204.get rfl)) fun a205 hA205 _ => ?_)
            refine sq (opk_val hA205 rfl (r_move (hA205.get rfl)) fun a206 hA206 _ => ?_)
            obtain ⟨hS208, ht209⟩ := ht199
            refine sq (opk_val hA206 rfl (r_addI (hA206.get rfl) (hA206.get rfl) hS208) fun a207 hA207 _ => ?_)
            obtain ⟨hS211, ht212⟩ := ht209
            refine sq (opk_val hA207 rfl (r_addI (hA207.get rfl) rfl hS211) fun a210 hA210 _ => ?_)
            refine sq (opk_val hA210 rfl (r_assign (hA210.get rfl)) fun a213 hA213 _ => ?_)
            refine sq (opk_val hA213 rfl (r_assign (hA213.get rfl)) fun a214 hA214 _ => ?_)
            refine sq (opk_val hA214 rfl (r_assign rfl) fun a215 hA215 _ => ?_)
            refine sq_end ?_
            have hA216 := hA215.keep [(4, .int .u64 (bits .or .u64 v_43 (IntKind.u64.wrap ((IntKind.u64.wrap (bits .andNot .u8 x_146 128)) * 2 ^ (7 * x_44).toNat)))), (5, .int .i64 ((at_2 + x_44) + 1)), (6, .int .i64 0)] ⟨rfl, rfl, rfl, trivial⟩
            refine then_normal ?_
            refine wp_ret ?_
            refine block_ret ?_
            refine then_ret ?_
            refine then_ret ?_
            refine block_ret ?_
            refine then_ret ?_
            exact res_all (vs := [.int .u64 (bits .or .u64 v_43 (IntKind.u64.wrap ((IntKind.u64.wrap (bits .andNot .u8 x_146 128)) * 2 ^ (7 * x_44).toNat))), .int .i64 ((at_2 + x_44) + 1), .int .i64 0]) rfl hA216 ⟨res_of_tmp hA216 rfl, res_of_tmp hA216 rfl, res_of_tmp hA216 rfl, trivial⟩ ht212
    · have ht138 := ht133.2 (of_decide_eq_false hc)
      clear hc
      refine wp_exit ?_
      refine then_exit ?_
      refine then_exit ?_
      refine block_hit ?_
      have hA217 := hA136.keep [] trivial
      refine then_normal ?_
      refine wp_seq ?_
      refine wp_region_lit ?_
      refine sq (opk_val hA217 rfl (r_assign rfl) fun a218 hA218 _ => ?_)
      refine sq (opk_val hA218 rfl (r_assign rfl) fun a219 hA219 _ => ?_)
      refine sq (opk_val hA219 rfl (r_assign rfl) fun a220 hA220 _ => ?_)
      refine sq_end ?_
      have hA221 := hA220.keep [(4, .int .u64 0), (5, .int .i64 0), (6, .int .i64 9)] ⟨rfl, rfl, rfl, trivial⟩
      refine then_normal ?_
      refine wp_ret ?_
      exact res_all (vs := [.int .u64 0, .int .i64 0, .int .i64 9]) rfl hA221 ⟨res_of_tmp hA221 rfl, res_of_tmp hA221 rfl, res_of_tmp hA221 rfl, trivial⟩ ht138

end Go.Proofs.Ytanhcenminbkmaa
