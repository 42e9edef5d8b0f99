/-
  PRINTED BY PROGRAM: for each function its condition (vc), and that this suffices (ok).
-/
import Derived.Test.YtpacegmmbabhjaaGT
namespace Go.Proofs.Ytpacegmmbabhjaa
open Go.RowKit
set_option linter.unusedVariables false

/-- The condition of topiary/topiarylaw05.TreeAll. -/
def law05_TreeAll.vc (a_1_Kind : Int) (a_1_Name : Str) (a_1_Text : Str) (a_1_Attrs : Sl) (a_1_Kids : Sl) (b_2_Kind : Int) (b_2_Name : Str) (b_2_Text : Str) (b_2_Attrs : Sl) (b_2_Kids : Sl) (name_3 : Str) (R : Value → World → Prop) (w : World) : Prop :=
∀ (w13 : World) (B_4 : Nat) (B_12 : Nat), New w B_4 w13 → New w B_12 w13 → B_4 ≠ B_12 → Chg [] w w13 →
CallK Try.prog 20 #[.agg #[.int .i64 a_1_Kind, .string (Bs a_1_Name), .string (Bs a_1_Text), Sl.v a_1_Attrs, Sl.v a_1_Kids]] w13 [B_4, B_12] (fun v w29 => ∃ (r_27 : Bool), v = .bool r_27 ∧
∃ (r_40 : Bool), (((r_27 = true)) → Calls Try.prog 20 #[.agg #[.int .i64 b_2_Kind, .string (Bs b_2_Name), .string (Bs b_2_Text), Sl.v b_2_Attrs, Sl.v b_2_Kids]] w29 (Ret fun v w' => Ext w29 w' ∧ v = .bool r_40)) ∧
(∀ w42 : World, Ext w29 w42 →
((((r_27 = false) ∨ (r_40 = false)) ∨ (200 < (name_3.length : Int))) →
CallK Try.prog 15 #[] w42 [B_4, B_12] (fun v w62 => ∃ (r_60 : Bool), v = .bool r_60 ∧
R (.bool r_60) w62)) ∧
((((r_27 = true) ∧ (r_40 = true)) ∧ (¬ (200 < (name_3.length : Int)))) →
∀ (w72 : World), Chg [] w42 w72 →
∃ G_79 : Value → Nat → World → Prop, (∀ v b, ∀ w' w'' : World, Ext w' w'' → G_79 v b w' → G_79 v b w'') ∧
∃ V_81 : Int → Str → Str → Sl → Sl → World → Prop, (∀ r_80_Kind : Int, ∀ r_80_Name : Str, ∀ r_80_Text : Str, ∀ r_80_Attrs : Sl, ∀ r_80_Kids : Sl, ∀ w' w'' : World, Ext w' w'' → V_81 r_80_Kind r_80_Name r_80_Text r_80_Attrs r_80_Kids w' → V_81 r_80_Kind r_80_Name r_80_Text r_80_Attrs r_80_Kids w'') ∧
(∀ r_80_Kind : Int, ∀ r_80_Name : Str, ∀ r_80_Text : Str, ∀ r_80_Attrs : Sl, ∀ r_80_Kids : Sl, ∀ (w' : World) (b : Nat), V_81 r_80_Kind r_80_Name r_80_Text r_80_Attrs r_80_Kids w' → w'.heap.size ≤ b → G_79 (.agg #[.int .i64 r_80_Kind, .string (Bs r_80_Name), .string (Bs r_80_Text), Sl.v r_80_Attrs, Sl.v r_80_Kids]) b w') ∧
(∀ w' : World, Ext w72 w' → Calls Try.prog 13 #[.agg #[.int .i64 a_1_Kind, .string (Bs a_1_Name), .string (Bs a_1_Text), Sl.v a_1_Attrs, Sl.v a_1_Kids]] w' (Ret fun v w'' => Ext w' w'' ∧ ∃ r_80_Kind : Int, ∃ r_80_Name : Str, ∃ r_80_Text : Str, ∃ r_80_Attrs : Sl, ∃ r_80_Kids : Sl, (v = .agg #[.int .i64 r_80_Kind, .string (Bs r_80_Name), .string (Bs r_80_Text), Sl.v r_80_Attrs, Sl.v r_80_Kids] ∧ V_81 r_80_Kind r_80_Name r_80_Text r_80_Attrs r_80_Kids w'') ∧ ∀ b, w72.heap.size ≤ b → b < w'.heap.size → G_79 v b w'')) ∧
∃ G_89 : Value → Nat → World → Prop, (∀ v b, ∀ w' w'' : World, Ext w' w'' → G_89 v b w' → G_89 v b w'') ∧
∃ V_91 : Int → Str → Str → Sl → Sl → World → Prop, (∀ r_90_Kind : Int, ∀ r_90_Name : Str, ∀ r_90_Text : Str, ∀ r_90_Attrs : Sl, ∀ r_90_Kids : Sl, ∀ w' w'' : World, Ext w' w'' → V_91 r_90_Kind r_90_Name r_90_Text r_90_Attrs r_90_Kids w' → V_91 r_90_Kind r_90_Name r_90_Text r_90_Attrs r_90_Kids w'') ∧
(∀ r_90_Kind : Int, ∀ r_90_Name : Str, ∀ r_90_Text : Str, ∀ r_90_Attrs : Sl, ∀ r_90_Kids : Sl, ∀ (w' : World) (b : Nat), V_91 r_90_Kind r_90_Name r_90_Text r_90_Attrs r_90_Kids w' → w'.heap.size ≤ b → G_89 (.agg #[.int .i64 r_90_Kind, .string (Bs r_90_Name), .string (Bs r_90_Text), Sl.v r_90_Attrs, Sl.v r_90_Kids]) b w') ∧
(∀ w' : World, Ext w72 w' → Calls Try.prog 13 #[.agg #[.int .i64 b_2_Kind, .string (Bs b_2_Name), .string (Bs b_2_Text), Sl.v b_2_Attrs, Sl.v b_2_Kids]] w' (Ret fun v w'' => Ext w' w'' ∧ ∃ r_90_Kind : Int, ∃ r_90_Name : Str, ∃ r_90_Text : Str, ∃ r_90_Attrs : Sl, ∃ r_90_Kids : Sl, (v = .agg #[.int .i64 r_90_Kind, .string (Bs r_90_Name), .string (Bs r_90_Text), Sl.v r_90_Attrs, Sl.v r_90_Kids] ∧ V_91 r_90_Kind r_90_Name r_90_Text r_90_Attrs r_90_Kids w'') ∧ ∀ b, w72.heap.size ≤ b → b < w'.heap.size → G_89 v b w'')) ∧
∀ (w109 : World) (r_80_Kind : Int) (r_80_Name : Str) (r_80_Text : Str) (r_80_Attrs : Sl) (r_80_Kids : Sl) (r_90_Kind : Int) (r_90_Name : Str) (r_90_Text : Str) (r_90_Attrs : Sl) (r_90_Kids : Sl) (B_98 : Nat) (B_103 : Nat), Ext w72 w109 → V_81 r_80_Kind r_80_Name r_80_Text r_80_Attrs r_80_Kids w109 → V_91 r_90_Kind r_90_Name r_90_Text r_90_Attrs r_90_Kids w109 → w72.heap.size ≤ B_98 → Box w109 B_98 26 [.int .i64 0, .string (Bs ([] : Str)), .string (Bs ([] : Str)), Sl.v Sl.nil, Sl.v Sl.nil] → w72.heap.size ≤ B_103 → Box w109 B_103 26 [.int .i64 0, .string (Bs ([] : Str)), .string (Bs ([] : Str)), Sl.v Sl.nil, Sl.v Sl.nil] → G_79 (.agg #[.int .i64 r_80_Kind, .string (Bs r_80_Name), .string (Bs r_80_Text), Sl.v r_80_Attrs, Sl.v r_80_Kids]) B_98 w109 → G_79 (.agg #[.int .i64 r_80_Kind, .string (Bs r_80_Name), .string (Bs r_80_Text), Sl.v r_80_Attrs, Sl.v r_80_Kids]) B_103 w109 → G_89 (.agg #[.int .i64 r_90_Kind, .string (Bs r_90_Name), .string (Bs r_90_Text), Sl.v r_90_Attrs, Sl.v r_90_Kids]) B_98 w109 → G_89 (.agg #[.int .i64 r_90_Kind, .string (Bs r_90_Name), .string (Bs r_90_Text), Sl.v r_90_Attrs, Sl.v r_90_Kids]) B_103 w109 → 
∀ (w150 : World), Chg [B_103, B_98] w109 w150 →
CallK Try.prog 23 #[.agg #[.int .i64 r_80_Kind, .string (Bs r_80_Name), .string (Bs r_80_Text), Sl.v r_80_Attrs, Sl.v r_80_Kids], .string (Bs name_3)] w150 [B_4, B_12, B_98, B_103] (fun v w166 => ∃ (r_0_163 : Str) (r_1_164 : Bool), v = .tuple #[.string (Bs r_0_163), .bool r_1_164] ∧
CallK Try.prog 26 #[Sl.v a_1_Attrs, .string (Bs name_3)] w166 [B_4, B_12, B_98, B_103] (fun v w188 => ∃ (r_0_185 : Str) (r_1_186 : Bool), v = .tuple #[.string (Bs r_0_185), .bool r_1_186] ∧
∀ (w204 : World), Chg [] w188 w204 →
∃ (r_213 : Bool), (∀ w' : World, Ext w204 w' → Calls Try.prog 12 #[.agg #[.int .i64 r_80_Kind, .string (Bs r_80_Name), .string (Bs r_80_Text), Sl.v r_80_Attrs, Sl.v r_80_Kids]] w' (Ret fun v w'' => Ext w' w'' ∧ v = .bool r_213)) ∧
∃ (r_217 : Bool), (∀ w' : World, Ext w204 w' → Calls Try.prog 27 #[.agg #[.int .i64 a_1_Kind, .string (Bs a_1_Name), .string (Bs a_1_Text), Sl.v a_1_Attrs, Sl.v a_1_Kids]] w' (Ret fun v w'' => Ext w' w'' ∧ v = .bool r_217)) ∧
∃ (r_226 : Bool), ((((r_213 == r_217) = true)) → ∀ w' : World, Ext w204 w' → Calls Try.prog 19 #[.string (Bs name_3)] w' (Ret fun v w'' => Ext w' w'' ∧ v = .bool r_226)) ∧
∃ (r_232 : Bool), ((((r_213 == r_217) = true)) → ∀ w' : World, Ext w204 w' → Calls Try.prog 28 #[.string (Bs name_3)] w' (Ret fun v w'' => Ext w' w'' ∧ v = .bool r_232)) ∧
∃ (r_244 : Int), (((((r_213 == r_217) = true) ∧ ((r_226 == r_232) = true))) → ∀ w' : World, Ext w204 w' → Calls Try.prog 21 #[.agg #[.int .i64 r_80_Kind, .string (Bs r_80_Name), .string (Bs r_80_Text), Sl.v r_80_Attrs, Sl.v r_80_Kids]] w' (Ret fun v w'' => Ext w' w'' ∧ v = .int .i64 r_244)) ∧
∃ (r_250 : Int), (((((r_213 == r_217) = true) ∧ ((r_226 == r_232) = true))) → ∀ w' : World, Ext w204 w' → Calls Try.prog 29 #[.agg #[.int .i64 a_1_Kind, .string (Bs a_1_Name), .string (Bs a_1_Text), Sl.v a_1_Attrs, Sl.v a_1_Kids]] w' (Ret fun v w'' => Ext w' w'' ∧ v = .int .i64 r_250)) ∧
∃ (r_262 : Int), ((((((r_213 == r_217) = true) ∧ ((r_226 == r_232) = true)) ∧ (r_244 = r_250))) → ∀ w' : World, Ext w204 w' → Calls Try.prog 18 #[.agg #[.int .i64 r_80_Kind, .string (Bs r_80_Name), .string (Bs r_80_Text), Sl.v r_80_Attrs, Sl.v r_80_Kids]] w' (Ret fun v w'' => Ext w' w'' ∧ v = .int .i64 r_262)) ∧
∃ (r_268 : Int), ((((((r_213 == r_217) = true) ∧ ((r_226 == r_232) = true)) ∧ (r_244 = r_250))) → ∀ w' : World, Ext w204 w' → Calls Try.prog 30 #[.agg #[.int .i64 a_1_Kind, .string (Bs a_1_Name), .string (Bs a_1_Text), Sl.v a_1_Attrs, Sl.v a_1_Kids]] w' (Ret fun v w'' => Ext w' w'' ∧ v = .int .i64 r_268)) ∧
∃ (r_280 : Int), (((((((r_213 == r_217) = true) ∧ ((r_226 == r_232) = true)) ∧ (r_244 = r_250)) ∧ (r_262 = r_268))) → ∀ w' : World, Ext w204 w' → Calls Try.prog 22 #[.agg #[.int .i64 r_80_Kind, .string (Bs r_80_Name), .string (Bs r_80_Text), Sl.v r_80_Attrs, Sl.v r_80_Kids]] w' (Ret fun v w'' => Ext w' w'' ∧ v = .int .i64 r_280)) ∧
∃ (r_286 : Int), (((((((r_213 == r_217) = true) ∧ ((r_226 == r_232) = true)) ∧ (r_244 = r_250)) ∧ (r_262 = r_268))) → ∀ w' : World, Ext w204 w' → Calls Try.prog 31 #[.agg #[.int .i64 a_1_Kind, .string (Bs a_1_Name), .string (Bs a_1_Text), Sl.v a_1_Attrs, Sl.v a_1_Kids]] w' (Ret fun v w'' => Ext w' w'' ∧ v = .int .i64 r_286)) ∧
∃ (r_300 : Bool), ((((((((r_213 == r_217) = true) ∧ ((r_226 == r_232) = true)) ∧ (r_244 = r_250)) ∧ (r_262 = r_268)) ∧ (r_280 = r_286))) → ∀ w' : World, Ext w204 w' → Calls Try.prog 25 #[.agg #[.int .i64 r_80_Kind, .string (Bs r_80_Name), .string (Bs r_80_Text), Sl.v r_80_Attrs, Sl.v r_80_Kids], .agg #[.int .i64 r_90_Kind, .string (Bs r_90_Name), .string (Bs r_90_Text), Sl.v r_90_Attrs, Sl.v r_90_Kids]] w' (Ret fun v w'' => Ext w' w'' ∧ v = .bool r_300)) ∧
∃ (r_308 : Bool), ((((((((r_213 == r_217) = true) ∧ ((r_226 == r_232) = true)) ∧ (r_244 = r_250)) ∧ (r_262 = r_268)) ∧ (r_280 = r_286))) → ∀ w' : World, Ext w204 w' → Calls Try.prog 32 #[.agg #[.int .i64 a_1_Kind, .string (Bs a_1_Name), .string (Bs a_1_Text), Sl.v a_1_Attrs, Sl.v a_1_Kids], .agg #[.int .i64 b_2_Kind, .string (Bs b_2_Name), .string (Bs b_2_Text), Sl.v b_2_Attrs, Sl.v b_2_Kids]] w' (Ret fun v w'' => Ext w' w'' ∧ v = .bool r_308)) ∧
∃ (r_322 : Int), (((((((((r_213 == r_217) = true) ∧ ((r_226 == r_232) = true)) ∧ (r_244 = r_250)) ∧ (r_262 = r_268)) ∧ (r_280 = r_286)) ∧ ((r_300 == r_308) = true))) → ∀ w' : World, Ext w204 w' → Calls Try.prog 24 #[.agg #[.int .i64 r_80_Kind, .string (Bs r_80_Name), .string (Bs r_80_Text), Sl.v r_80_Attrs, Sl.v r_80_Kids], .agg #[.int .i64 r_90_Kind, .string (Bs r_90_Name), .string (Bs r_90_Text), Sl.v r_90_Attrs, Sl.v r_90_Kids]] w' (Ret fun v w'' => Ext w' w'' ∧ v = .int .i64 r_322)) ∧
∃ (r_330 : Int), (((((((((r_213 == r_217) = true) ∧ ((r_226 == r_232) = true)) ∧ (r_244 = r_250)) ∧ (r_262 = r_268)) ∧ (r_280 = r_286)) ∧ ((r_300 == r_308) = true))) → ∀ w' : World, Ext w204 w' → Calls Try.prog 33 #[.agg #[.int .i64 a_1_Kind, .string (Bs a_1_Name), .string (Bs a_1_Text), Sl.v a_1_Attrs, Sl.v a_1_Kids], .agg #[.int .i64 b_2_Kind, .string (Bs b_2_Name), .string (Bs b_2_Text), Sl.v b_2_Attrs, Sl.v b_2_Kids]] w' (Ret fun v w'' => Ext w' w'' ∧ v = .int .i64 r_330)) ∧
∃ (r_360 : Bool), ((((((((((((r_213 == r_217) = true) ∧ ((r_226 == r_232) = true)) ∧ (r_244 = r_250)) ∧ (r_262 = r_268)) ∧ (r_280 = r_286)) ∧ ((r_300 == r_308) = true)) ∧ (r_322 = r_330)) ∧ (r_0_163 = r_0_185)) ∧ ((r_1_164 == r_1_186) = true))) → ∀ w' : World, Ext w204 w' → Calls Try.prog 32 #[.agg #[.int .i64 r_80_Kind, .string (Bs r_80_Name), .string (Bs r_80_Text), Sl.v r_80_Attrs, Sl.v r_80_Kids], .agg #[.int .i64 a_1_Kind, .string (Bs a_1_Name), .string (Bs a_1_Text), Sl.v a_1_Attrs, Sl.v a_1_Kids]] w' (Ret fun v w'' => Ext w' w'' ∧ v = .bool r_360)) ∧
∃ (r_367 : Bool), (((((((((((((r_213 == r_217) = true) ∧ ((r_226 == r_232) = true)) ∧ (r_244 = r_250)) ∧ (r_262 = r_268)) ∧ (r_280 = r_286)) ∧ ((r_300 == r_308) = true)) ∧ (r_322 = r_330)) ∧ (r_0_163 = r_0_185)) ∧ ((r_1_164 == r_1_186) = true)) ∧ (r_360 = true))) → ∀ w' : World, Ext w204 w' → Calls Try.prog 15 #[] w' (Ret fun v w'' => Ext w' w'' ∧ v = .bool r_367)) ∧
∀ (w374 : World), Chg [] w204 w374 →
R (.bool (((((((((((r_213 == r_217) && (r_226 == r_232)) && (decide (r_244 = r_250))) && (decide (r_262 = r_268))) && (decide (r_280 = r_286))) && (r_300 == r_308)) && (decide (r_322 = r_330))) && (decide (r_0_163 = r_0_185))) && (r_1_164 == r_1_186)) && r_360) && r_367)) w374)))))
set_option maxHeartbeats 1000000 in
set_option maxRecDepth 10000 in
theorem law05_TreeAll.ok (a_1_Kind : Int) (a_1_Name : Str) (a_1_Text : Str) (a_1_Attrs : Sl) (a_1_Kids : Sl) (b_2_Kind : Int) (b_2_Name : Str) (b_2_Text : Str) (b_2_Attrs : Sl) (b_2_Kids : Sl) (name_3 : Str) {R : Value → World → Prop} {w : World} (ht0 : law05_TreeAll.vc a_1_Kind a_1_Name a_1_Text a_1_Attrs a_1_Kids b_2_Kind b_2_Name b_2_Text b_2_Attrs b_2_Kids name_3 R w) : Calls Try.prog 10 #[.agg #[.int .i64 a_1_Kind, .string (Bs a_1_Name), .string (Bs a_1_Text), Sl.v a_1_Attrs, Sl.v a_1_Kids], .agg #[.int .i64 b_2_Kind, .string (Bs b_2_Name), .string (Bs b_2_Text), Sl.v b_2_Attrs, Sl.v b_2_Kids], .string (Bs name_3)] w (Ret R) := by
  refine enter [.agg #[.int .i64 a_1_Kind, .string (Bs a_1_Name), .string (Bs a_1_Text), Sl.v a_1_Attrs, Sl.v a_1_Kids], .agg #[.int .i64 b_2_Kind, .string (Bs b_2_Name), .string (Bs b_2_Text), Sl.v b_2_Attrs, Sl.v b_2_Kids], .string (Bs name_3)] Try.func10 rfl Try.ntmps10 rfl ?_
  intro a0 hA0
  unfold law05_TreeAll.vc at ht0
  refine wp_seq ?_
  refine wp_region_lit ?_
  refine sq (opk_new (fun B => .pointer (some ⟨B, 0, none⟩)) hA0 rfl (r_box (cs := [.int .i64 a_1_Kind, .string (Bs a_1_Name), .string (Bs a_1_Text), Sl.v a_1_Attrs, Sl.v a_1_Kids]) (hA0.get rfl) rfl) fun a6 w5 B_4 hE7 hN8 hB9 hA6 _ => ?_)
  have hN10 : New w B_4 w5 := hN8
  have hC11 : Chg [] w w5 := hE7
  refine sq (opk_new (fun B => .pointer (some ⟨B, 0, none⟩)) hA6 rfl (r_box (cs := [.int .i64 b_2_Kind, .string (Bs b_2_Name), .string (Bs b_2_Text), Sl.v b_2_Attrs, Sl.v b_2_Kids]) (hA6.get rfl) rfl) fun a14 w13 B_12 hE15 hN16 hB17 hA14 _ => ?_)
  have hne18 : B_4 ≠ B_12 := Nat.ne_of_lt (Nat.lt_of_lt_of_le hB9.lt hN16.ge)
  have hN19 := New.of hC11 hN16
  have hB20 := hB9.ext hE15
  have hC21 := hC11.more hE15
  have hN22 := hN10.up hE15.size
  refine sq (opk_val hA14 rfl (r_assign rfl) fun a23 hA23 _ => ?_)
  refine sq_end ?_
  have hA24 := hA23.keep [(2, .string (Bs name_3)), (3, .pointer (some (⟨B_4, 0, none⟩ : Addr))), (4, .pointer (some (⟨B_12, 0, none⟩ : Addr)))] ⟨rfl, rfl, rfl, trivial⟩
  refine then_normal ?_
  refine wp_seq ?_
  refine wp_seq ?_
  refine wp_region_lit ?_
  refine sq (opk_val hA24 rfl (r_loadN (cs := [.int .i64 a_1_Kind, .string (Bs a_1_Name), .string (Bs a_1_Text), Sl.v a_1_Attrs, Sl.v a_1_Kids]) Try.underlying26 rfl ti_26 (hA24.get rfl) (hB20.part 0 _ rfl)) fun a25 hA25 _ => ?_)
  have ht26 := ht0 w13 B_4 B_12 hN22 hN19 hne18 hC21
  refine sq (opk_call hA25 rfl (r_call (args := #[.agg #[.int .i64 a_1_Kind, .string (Bs a_1_Name), .string (Bs a_1_Text), Sl.v a_1_Attrs, Sl.v a_1_Kids]]) Try.func20 (by decide) rfl (map_arr (ml_cons (hA25.get rfl) ml_nil)) rfl) ht26 fun a28 v34 w29 hA28 _ hn31 hz32 hK33 => ?_)
  obtain ⟨r_27, rfl, ht30⟩ := hK33
  have hB35 := hB20.kept hn31 (.head _)
  have hB36 := hB17.kept hn31 (.tail _ (.head _))
  refine sq (opk_val hA28 rfl (r_not (hA28.get rfl)) fun a37 hA37 _ => ?_)
  refine sq (opk_val hA37 rfl (r_move (hA37.get rfl)) fun a38 hA38 _ => ?_)
  refine sq (opk_gval hA38 rfl rfl (g := true) (e := (!r_27)) rfl (fun hg => r_loadN (cs := [.int .i64 b_2_Kind, .string (Bs b_2_Name), .string (Bs b_2_Text), Sl.v b_2_Attrs, Sl.v b_2_Kids]) Try.underlying26 rfl ti_26 (hA38.get rfl) (hB36.part 0 _ rfl)) fun a39 hA39 _ => ?_)
  obtain ⟨r_40, hc44, ht43⟩ := ht30
  refine sq (opk_gcall hA39 rfl rfl (g := true) (e := (!r_27)) rfl (fun hg => r_call (args := #[.agg #[.int .i64 b_2_Kind, .string (Bs b_2_Name), .string (Bs b_2_Text), Sl.v b_2_Attrs, Sl.v b_2_Kids]]) Try.func20 (by decide) rfl (map_arr (ml_cons (cv_get (hA39.get rfl) hg) ml_nil)) rfl) (fun hg => hc44 (b_not_f (g_f hg))) fun a41 w42 hA41 _ hE45 => ?_)
  have hB46 := hB35.ext hE45
  have hB47 := hB36.ext hE45
  have hC48 : Chg [] w29 w42 := hE45
  have ht49 := ht43 w42 hE45
  refine sq (opk_gval hA41 rfl rfl (g := true) (e := (!r_27)) rfl (fun hg => r_not (cv_get (hA41.get rfl) hg)) fun a50 hA50 _ => ?_)
  refine sq (opk_val hA50 rfl (r_pick_or (g := (true && ((!r_27) == false))) (hA50.get rfl) (hA50.get rfl) (fun he => g_mkf rfl he)) fun a51 hA51 _ => ?_)
  refine sq (opk_val hA51 rfl (r_move (hA51.get rfl)) fun a52 hA52 _ => ?_)
  refine sq (opk_gval hA52 rfl rfl (g := true) (e := ((!r_27) || (!r_40))) rfl (fun hg => r_move (hA52.get rfl)) fun a53 hA53 _ => ?_)
  refine sq (opk_gval hA53 rfl rfl (g := true) (e := ((!r_27) || (!r_40))) rfl (fun hg => r_slen (cv_get (hA53.get rfl) hg) Try.underlying9) fun a54 hA54 _ => ?_)
  refine sq (opk_gval hA54 rfl rfl (g := true) (e := ((!r_27) || (!r_40))) rfl (fun hg => r_gtr (cv_get (hA54.get rfl) hg) rfl) fun a55 hA55 _ => ?_)
  refine sq (opk_val hA55 rfl (r_pick_or (g := (true && (((!r_27) || (!r_40)) == false))) (hA55.get rfl) (hA55.get rfl) (fun he => g_mkf rfl he)) fun a56 hA56 _ => ?_)
  refine sq_end ?_
  have hA57 := hA56.keep [(2, .string (Bs name_3)), (3, .pointer (some (⟨B_4, 0, none⟩ : Addr))), (4, .pointer (some (⟨B_12, 0, none⟩ : Addr))), (25, .bool (((!r_27) || (!r_40)) || (decide (200 < (name_3.length : Int)))))] ⟨rfl, rfl, rfl, rfl, trivial⟩
  refine then_normal ?_
  refine wp_cond_split (hA57.get rfl) (fun hc => ?_) (fun hc => ?_)
  · have ht58 := ht49.1 ((b_or_t hc).imp (fun h => ((b_or_t h).imp (fun h => (b_not_t h)) (fun h => (b_not_t h)))) (fun h => (of_decide_eq_true h)))
    clear hc
    refine wp_seq ?_
    refine wp_region_lit ?_
    refine sq (opk_call hA57 rfl (r_call (args := #[]) Try.func15 (by decide) rfl (map_arr ml_nil) rfl) ht58 fun a61 v67 w62 hA61 _ hn64 hz65 hK66 => ?_)
    obtain ⟨r_60, rfl, ht63⟩ := hK66
    have hB68 := hB46.kept hn64 (.head _)
    have hB69 := hB47.kept hn64 (.tail _ (.head _))
    refine sq (opk_val hA61 rfl (r_assign (hA61.get rfl)) fun a70 hA70 _ => ?_)
    refine sq_end ?_
    have hA71 := hA70.keep [(6, .bool r_60)] ⟨rfl, trivial⟩
    refine then_normal ?_
    refine wp_ret ?_
    refine then_ret ?_
    exact res_all (vs := [.bool r_60]) rfl hA71 ⟨res_of_tmp hA71 rfl, trivial⟩ ht63
  · have ht59 := ht49.2 ⟨⟨(b_not_f (b_or_f (b_or_f hc).1).1), (b_not_f (b_or_f (b_or_f hc).1).2)⟩, (of_decide_eq_false (b_or_f hc).2)⟩
    clear hc
    refine wp_skip ?_
    refine then_normal ?_
    refine wp_seq ?_
    refine draw' (by kernel_rfl) fun w72 hE73 => ?_
    have hB74 := hB46.ext hE73
    have hB75 := hB47.ext hE73
    have hC76 : Chg [] w42 w72 := hE73
    have ht77 := ht59 w72    hC76
    obtain ⟨G_79, hg85, ht87⟩ := ht77
    obtain ⟨V_81, hst82, hg86, hc83, ht84⟩ := ht87
    obtain ⟨G_89, hg95, ht97⟩ := ht84
    obtain ⟨V_91, hst92, hg96, hc93, ht94⟩ := ht97
    refine startF (D := [[], [0], [], [0, 1, 2], [], [], [0, 1, 2, 3, 4, 5], [0, 1, 2, 3, 4, 5, 6]]) (Fs := []) (Ef := []) (by kernel_rfl) ?_
    refine parFR (D := [[], [0], [], [0, 1, 2], [], [], [0, 1, 2, 3, 4, 5], [0, 1, 2, 3, 4, 5, 6]]) (S := [0, 1, 2, 3, 4, 5]) (F := []) (KE := [0, 1, 2, 3, 4, 5]) (N := [4, 5]) (M := [1, 3]) (Gs := [(1, G_79), (3, G_89)]) (E := [(0, fun v _ => v = .agg #[.int .i64 a_1_Kind, .string (Bs a_1_Name), .string (Bs a_1_Text), Sl.v a_1_Attrs, Sl.v a_1_Kids]), (1, fun v w' => ∃ r_80_Kind : Int, ∃ r_80_Name : Str, ∃ r_80_Text : Str, ∃ r_80_Attrs : Sl, ∃ r_80_Kids : Sl, V_81 r_80_Kind r_80_Name r_80_Text r_80_Attrs r_80_Kids w' ∧ v = .agg #[.int .i64 r_80_Kind, .string (Bs r_80_Name), .string (Bs r_80_Text), Sl.v r_80_Attrs, Sl.v r_80_Kids]), (2, fun v _ => v = .agg #[.int .i64 b_2_Kind, .string (Bs b_2_Name), .string (Bs b_2_Text), Sl.v b_2_Attrs, Sl.v b_2_Kids]), (3, fun v w' => ∃ r_90_Kind : Int, ∃ r_90_Name : Str, ∃ r_90_Text : Str, ∃ r_90_Attrs : Sl, ∃ r_90_Kids : Sl, V_91 r_90_Kind r_90_Name r_90_Text r_90_Attrs r_90_Kids w' ∧ v = .agg #[.int .i64 r_90_Kind, .string (Bs r_90_Name), .string (Bs r_90_Text), Sl.v r_90_Attrs, Sl.v r_90_Kids]), (4, fun v w' => ∃ B_98 : Nat, w72.heap.size ≤ B_98 ∧ Box w' B_98 26 [.int .i64 0, .string (Bs ([] : Str)), .string (Bs ([] : Str)), Sl.v Sl.nil, Sl.v Sl.nil] ∧ v = .pointer (some (⟨B_98, 0, none⟩ : Addr))), (5, fun v w' => ∃ B_103 : Nat, w72.heap.size ≤ B_103 ∧ Box w' B_103 26 [.int .i64 0, .string (Bs ([] : Str)), .string (Bs ([] : Str)), Sl.v Sl.nil, Sl.v Sl.nil] ∧ v = .pointer (some (⟨B_103, 0, none⟩ : Addr)))]) hA57 rfl (by kernel_rfl) (blkF ⟨fun _ _ h => by obtain ⟨B_98, _, hB, rfl⟩ := h; exact hB.lt, fun _ _ h => by obtain ⟨B_103, _, hB, rfl⟩ := h; exact hB.lt, trivial⟩) ⟨⟨hg85, fun _ _ _ h hb => by obtain ⟨r_80_Kind, r_80_Name, r_80_Text, r_80_Attrs, r_80_Kids, h1, rfl⟩ := h; exact hg86 _ _ _ _ _ _ _ h1 hb⟩, ⟨hg95, fun _ _ _ h hb => by obtain ⟨r_90_Kind, r_90_Name, r_90_Text, r_90_Attrs, r_90_Kids, h1, rfl⟩ := h; exact hg96 _ _ _ _ _ _ _ h1 hb⟩, trivial⟩ ⟨fun _ _ _ _ h => by first | exact h | (change _ = _ at h; change _ = _; exact h), fun _ _ _ hE ⟨r_80_Kind, r_80_Name, r_80_Text, r_80_Attrs, r_80_Kids, h0_, e⟩ => ⟨r_80_Kind, r_80_Name, r_80_Text, r_80_Attrs, r_80_Kids, (hst82 r_80_Kind r_80_Name r_80_Text r_80_Attrs r_80_Kids _ _ hE h0_), e⟩, fun _ _ _ _ h => by first | exact h | (change _ = _ at h; change _ = _; exact h), fun _ _ _ hE ⟨r_90_Kind, r_90_Name, r_90_Text, r_90_Attrs, r_90_Kids, h0_, e⟩ => ⟨r_90_Kind, r_90_Name, r_90_Text, r_90_Attrs, r_90_Kids, (hst92 r_90_Kind r_90_Name r_90_Text r_90_Attrs r_90_Kids _ _ hE h0_), e⟩, fun _ _ _ hE ⟨B_98, h0_, h1_, e⟩ => ⟨B_98, h0_, (h1_.ext hE), e⟩, fun _ _ _ hE ⟨B_103, h0_, h1_, e⟩ => ⟨B_103, h0_, (h1_.ext hE), e⟩, trivial⟩ ⟨?_, ?_, ?_, ?_, ?_, ?_, trivial⟩ ?_
    · intro a w hT
      refine overR_of rfl ?_
      refine overN_of rfl ?_
      have hAp := hT.ag hA57 [(3, .pointer (some (⟨B_4, 0, none⟩ : Addr)))] ⟨rfl, trivial⟩ (by kernel_rfl)
      exact opk_val hAp rfl (r_loadN (cs := [.int .i64 a_1_Kind, .string (Bs a_1_Name), .string (Bs a_1_Text), Sl.v a_1_Attrs, Sl.v a_1_Kids]) Try.underlying26 rfl ti_26 (hAp.get rfl) ((hB74.ext hT.chg).part 0 _ rfl)) fun _ _ e => ⟨_, e, Chg.refl _ _, fun _ => Eq.refl _⟩
    · intro a w hT
      have hAp := hT.ag hA57 [] trivial (by kernel_rfl)
      have e78 : a.tmps.getD 27 undef = .agg #[.int .i64 a_1_Kind, .string (Bs a_1_Name), .string (Bs a_1_Text), Sl.v a_1_Attrs, Sl.v a_1_Kids] := hT.vals 0 rfl 27 rfl
      have hAp := hAp.add e78
      exact opk_callX hAp rfl (r_call (args := #[.agg #[.int .i64 a_1_Kind, .string (Bs a_1_Name), .string (Bs a_1_Text), Sl.v a_1_Attrs, Sl.v a_1_Kids]]) Try.func13 (by decide) rfl (map_arr (ml_cons (hAp.get rfl) ml_nil)) rfl) (hc83 w hT.chg) fun _ _ _ _ e ⟨hE, r_80_Kind, r_80_Name, r_80_Text, r_80_Attrs, r_80_Kids, ⟨he, hV⟩, hG⟩ => ⟨_, e, hE, fun _ => ⟨r_80_Kind, r_80_Name, r_80_Text, r_80_Attrs, r_80_Kids, hV, he⟩, fun h => absurd h (by decide), fun _ => hG⟩
    · intro a w hT
      refine overR_of rfl ?_
      refine overN_of rfl ?_
      have hAp := hT.ag hA57 [(4, .pointer (some (⟨B_12, 0, none⟩ : Addr)))] ⟨rfl, trivial⟩ (by kernel_rfl)
      exact opk_val hAp rfl (r_loadN (cs := [.int .i64 b_2_Kind, .string (Bs b_2_Name), .string (Bs b_2_Text), Sl.v b_2_Attrs, Sl.v b_2_Kids]) Try.underlying26 rfl ti_26 (hAp.get rfl) ((hB75.ext hT.chg).part 0 _ rfl)) fun _ _ e => ⟨_, e, Chg.refl _ _, fun _ => Eq.refl _⟩
    · intro a w hT
      have hAp := hT.ag hA57 [] trivial (by kernel_rfl)
      have e88 : a.tmps.getD 29 undef = .agg #[.int .i64 b_2_Kind, .string (Bs b_2_Name), .string (Bs b_2_Text), Sl.v b_2_Attrs, Sl.v b_2_Kids] := hT.vals 2 rfl 29 rfl
      have hAp := hAp.add e88
      exact opk_callX hAp rfl (r_call (args := #[.agg #[.int .i64 b_2_Kind, .string (Bs b_2_Name), .string (Bs b_2_Text), Sl.v b_2_Attrs, Sl.v b_2_Kids]]) Try.func13 (by decide) rfl (map_arr (ml_cons (hAp.get rfl) ml_nil)) rfl) (hc93 w hT.chg) fun _ _ _ _ e ⟨hE, r_90_Kind, r_90_Name, r_90_Text, r_90_Attrs, r_90_Kids, ⟨he, hV⟩, hG⟩ => ⟨_, e, hE, fun _ => ⟨r_90_Kind, r_90_Name, r_90_Text, r_90_Attrs, r_90_Kids, hV, he⟩, fun h => absurd h (by decide), fun _ => hG⟩
    · intro a w hT
      refine overR_of rfl ?_
      have hAp := hT.ag hA57 [] trivial (by kernel_rfl)
      exact opk_new (fun B => .pointer (some ⟨B, 0, none⟩)) hAp rfl (r_alloc (cs := [.int .i64 0, .string (Bs ([] : Str)), .string (Bs ([] : Str)), Sl.v Sl.nil, Sl.v Sl.nil]) ti_26 rfl) fun _ w99 B_98 hE100 hN101 hB102 _ e => ⟨_, e, hE100, fun _ => ⟨B_98, Nat.le_trans hT.chg.size hN101.ge, hB102, rfl⟩, fun _ => hN101.ge⟩
    · intro a w hT
      refine overR_of rfl ?_
      have hAp := hT.ag hA57 [] trivial (by kernel_rfl)
      exact opk_new (fun B => .pointer (some ⟨B, 0, none⟩)) hAp rfl (r_alloc (cs := [.int .i64 0, .string (Bs ([] : Str)), .string (Bs ([] : Str)), Sl.v Sl.nil, Sl.v Sl.nil]) ti_26 rfl) fun _ w104 B_103 hE105 hN106 hB107 _ e => ⟨_, e, hE105, fun _ => ⟨B_103, Nat.le_trans hT.chg.size hN106.ge, hB107, rfl⟩, fun _ => hN106.ge⟩
    · intro a108 w109 hE110 hag111 hv112 hap113 hgr
      refine PRF_nil ?_
      have hA108 := hag111 [(2, .string (Bs name_3)), (3, .pointer (some (⟨B_4, 0, none⟩ : Addr))), (4, .pointer (some (⟨B_12, 0, none⟩ : Addr)))] ⟨rfl, rfl, rfl, trivial⟩ (by kernel_rfl)
      obtain ⟨r_80_Kind, r_80_Name, r_80_Text, r_80_Attrs, r_80_Kids, hf116, e114⟩ := hv112 1 rfl 28 rfl
      have hA115 := hA108.add e114
      obtain ⟨r_90_Kind, r_90_Name, r_90_Text, r_90_Attrs, r_90_Kids, hf119, e117⟩ := hv112 3 rfl 30 rfl
      have hA118 := hA115.add e117
      obtain ⟨B_98, hf122, hf123, e120⟩ := hv112 4 rfl 7 rfl
      have hA121 := hA118.add e120
      obtain ⟨B_103, hf126, hf127, e124⟩ := hv112 5 rfl 8 rfl
      have hA125 := hA121.add e124
      have hne128 : B_98 ≠ B_103 := by have h := hap113 4 5 rfl 7 8 rfl rfl; rw [e120, e124] at h; exact h
      have hgv129 : G_79 (.agg #[.int .i64 r_80_Kind, .string (Bs r_80_Name), .string (Bs r_80_Text), Sl.v r_80_Attrs, Sl.v r_80_Kids]) B_98 w109 := by have h := hgr 1 4 rfl 28 7 rfl rfl; rw [e114, e120] at h; exact h
      have hgv130 : G_79 (.agg #[.int .i64 r_80_Kind, .string (Bs r_80_Name), .string (Bs r_80_Text), Sl.v r_80_Attrs, Sl.v r_80_Kids]) B_103 w109 := by have h := hgr 1 5 rfl 28 8 rfl rfl; rw [e114, e124] at h; exact h
      have hgv131 : G_89 (.agg #[.int .i64 r_90_Kind, .string (Bs r_90_Name), .string (Bs r_90_Text), Sl.v r_90_Attrs, Sl.v r_90_Kids]) B_98 w109 := by have h := hgr 3 4 rfl 30 7 rfl rfl; rw [e117, e120] at h; exact h
      have hgv132 : G_89 (.agg #[.int .i64 r_90_Kind, .string (Bs r_90_Name), .string (Bs r_90_Text), Sl.v r_90_Attrs, Sl.v r_90_Kids]) B_103 w109 := by have h := hgr 3 5 rfl 30 8 rfl rfl; rw [e117, e124] at h; exact h
      have hB133 := hB74.ext hE110
      have hB134 := hB75.ext hE110
      have hC135 : Chg [] w72 w109 := hE110
      have ht136 := ht94 w109 r_80_Kind r_80_Name r_80_Text r_80_Attrs r_80_Kids r_90_Kind r_90_Name r_90_Text r_90_Attrs r_90_Kids B_98 B_103 hE110 hf116 hf119 hf122 hf123 hf126 hf127 hgv129 hgv130 hgv131 hgv132
      have hne137 : B_4 ≠ B_98 := Nat.ne_of_lt (Nat.lt_of_lt_of_le hB74.lt hf122)
      have hne138 : B_12 ≠ B_98 := Nat.ne_of_lt (Nat.lt_of_lt_of_le hB75.lt hf122)
      have hne139 : B_4 ≠ B_103 := Nat.ne_of_lt (Nat.lt_of_lt_of_le hB74.lt hf126)
      have hne140 : B_12 ≠ B_103 := Nat.ne_of_lt (Nat.lt_of_lt_of_le hB75.lt hf126)
      refine one (D := [[], [0], [], [0, 1, 2], [], [], [0, 1, 2, 3, 4, 5], [0, 1, 2, 3, 4, 5, 6]]) (i := 6) rfl (by kernel_rfl) (opk_store hA125 hf123 (r_store (vs := [.int .i64 r_80_Kind, .string (Bs r_80_Name), .string (Bs r_80_Text), Sl.v r_80_Attrs, Sl.v r_80_Kids]) (hA125.get rfl) (hA125.get rfl) rfl ti_26 hf123 rfl (ones_all [.int .i64 r_80_Kind, .string (Bs r_80_Name), .string (Bs r_80_Text), Sl.v r_80_Attrs, Sl.v r_80_Kids] rfl)) fun a142 w141 hS143 hB144 hA142 => ?_)
      have hB145 : Box w141 B_98 26 [.int .i64 r_80_Kind, .string (Bs r_80_Name), .string (Bs r_80_Text), Sl.v r_80_Attrs, Sl.v r_80_Kids] := hB144
      have hB146 := hB133.keep hS143 (by simpa using hne137)
      have hB147 := hB134.keep hS143 (by simpa using hne138)
      have hB148 := hf127.keep hS143 (by simpa using hne128.symm)
      have hC149 : Chg [B_98] w109 w141 := hS143
      refine one (D := [[], [0], [], [0, 1, 2], [], [], [0, 1, 2, 3, 4, 5], [0, 1, 2, 3, 4, 5, 6]]) (i := 7) rfl (by kernel_rfl) (opk_store hA142 hB148 (r_store (vs := [.int .i64 r_90_Kind, .string (Bs r_90_Name), .string (Bs r_90_Text), Sl.v r_90_Attrs, Sl.v r_90_Kids]) (hA142.get rfl) (hA142.get rfl) rfl ti_26 hB148 rfl (ones_all [.int .i64 r_90_Kind, .string (Bs r_90_Name), .string (Bs r_90_Text), Sl.v r_90_Attrs, Sl.v r_90_Kids] rfl)) fun a151 w150 hS152 hB153 hA151 => ?_)
      have hB154 : Box w150 B_103 26 [.int .i64 r_90_Kind, .string (Bs r_90_Name), .string (Bs r_90_Text), Sl.v r_90_Attrs, Sl.v r_90_Kids] := hB153
      have hB155 := hB146.keep hS152 (by simpa using hne139)
      have hB156 := hB147.keep hS152 (by simpa using hne140)
      have hB157 := hB145.keep hS152 (by simpa using hne128)
      have hC158 := hC149.storeOld hS152
      refine PR_end (by kernel_rfl) ?_
      have hA159 := hA151.keep [(2, .string (Bs name_3)), (3, .pointer (some (⟨B_4, 0, none⟩ : Addr))), (4, .pointer (some (⟨B_12, 0, none⟩ : Addr))), (7, .pointer (some (⟨B_98, 0, none⟩ : Addr))), (8, .pointer (some (⟨B_103, 0, none⟩ : Addr)))] ⟨rfl, rfl, rfl, rfl, rfl, trivial⟩
      refine then_normal ?_
      refine wp_seq ?_
      refine wp_region_lit ?_
      refine sq (opk_val hA159 rfl (r_loadN (cs := [.int .i64 r_80_Kind, .string (Bs r_80_Name), .string (Bs r_80_Text), Sl.v r_80_Attrs, Sl.v r_80_Kids]) Try.underlying26 rfl ti_26 (hA159.get rfl) (hB157.part 0 _ rfl)) fun a160 hA160 _ => ?_)
      refine sq (opk_val hA160 rfl (r_move (hA160.get rfl)) fun a161 hA161 _ => ?_)
      have ht162 := ht136 w150    hC158
      refine sq (opk_call hA161 rfl (r_call (args := #[.agg #[.int .i64 r_80_Kind, .string (Bs r_80_Name), .string (Bs r_80_Text), Sl.v r_80_Attrs, Sl.v r_80_Kids], .string (Bs name_3)]) Try.func23 (by decide) rfl (map_arr (ml_cons (hA161.get rfl) (ml_cons (hA161.get rfl) ml_nil))) rfl) ht162 fun a165 v171 w166 hA165 _ hn168 hz169 hK170 => ?_)
      obtain ⟨r_0_163, r_1_164, rfl, ht167⟩ := hK170
      have hB172 := hB155.kept hn168 (.head _)
      have hB173 := hB156.kept hn168 (.tail _ (.head _))
      have hB174 := hB157.kept hn168 (.tail _ (.tail _ (.head _)))
      have hB175 := hB154.kept hn168 (.tail _ (.tail _ (.tail _ (.head _))))
      refine sq (opk_val hA165 rfl (r_move (hA165.get rfl)) fun a176 hA176 _ => ?_)
      refine sq (opk_val hA176 rfl (r_extract (hA176.get rfl) rfl) fun a177 hA177 _ => ?_)
      refine sq (opk_val hA177 rfl (r_extract (hA177.get rfl) rfl) fun a178 hA178 _ => ?_)
      refine sq (opk_val hA178 rfl (r_assign (hA178.get rfl)) fun a179 hA179 _ => ?_)
      refine sq (opk_val hA179 rfl (r_assign (hA179.get rfl)) fun a180 hA180 _ => ?_)
      refine sq_end ?_
      have hA181 := hA180.keep [(2, .string (Bs name_3)), (3, .pointer (some (⟨B_4, 0, none⟩ : Addr))), (4, .pointer (some (⟨B_12, 0, none⟩ : Addr))), (7, .pointer (some (⟨B_98, 0, none⟩ : Addr))), (8, .pointer (some (⟨B_103, 0, none⟩ : Addr))), (9, .string (Bs r_0_163)), (10, .bool r_1_164)] ⟨rfl, rfl, rfl, rfl, rfl, rfl, rfl, trivial⟩
      refine then_normal ?_
      refine wp_seq ?_
      refine wp_region_lit ?_
      refine sq (opk_val hA181 rfl (r_fieldAddr (hA181.get rfl) Try.underlying26 rfl ti_23 (by decide)) fun a182 hA182 _ => ?_)
      refine sq (opk_val hA182 rfl (r_load1 Try.underlying23 rfl (hA182.get rfl) (hB172.cell 3 _ rfl)) fun a183 hA183 _ => ?_)
      refine sq (opk_val hA183 rfl (r_move (hA183.get rfl)) fun a184 hA184 _ => ?_)
      refine sq (opk_call hA184 rfl (r_call (args := #[Sl.v a_1_Attrs, .string (Bs name_3)]) Try.func26 (by decide) rfl (map_arr (ml_cons (hA184.get rfl) (ml_cons (hA184.get rfl) ml_nil))) rfl) ht167 fun a187 v193 w188 hA187 _ hn190 hz191 hK192 => ?_)
      obtain ⟨r_0_185, r_1_186, rfl, ht189⟩ := hK192
      have hB194 := hB172.kept hn190 (.head _)
      have hB195 := hB173.kept hn190 (.tail _ (.head _))
      have hB196 := hB174.kept hn190 (.tail _ (.tail _ (.head _)))
      have hB197 := hB175.kept hn190 (.tail _ (.tail _ (.tail _ (.head _))))
      refine sq (opk_val hA187 rfl (r_move (hA187.get rfl)) fun a198 hA198 _ => ?_)
      refine sq (opk_val hA198 rfl (r_extract (hA198.get rfl) rfl) fun a199 hA199 _ => ?_)
      refine sq (opk_val hA199 rfl (r_extract (hA199.get rfl) rfl) fun a200 hA200 _ => ?_)
      refine sq (opk_val hA200 rfl (r_assign (hA200.get rfl)) fun a201 hA201 _ => ?_)
      refine sq (opk_val hA201 rfl (r_assign (hA201.get rfl)) fun a202 hA202 _ => ?_)
      refine sq_end ?_
      have hA203 := hA202.keep [(2, .string (Bs name_3)), (3, .pointer (some (⟨B_4, 0, none⟩ : Addr))), (4, .pointer (some (⟨B_12, 0, none⟩ : Addr))), (7, .pointer (some (⟨B_98, 0, none⟩ : Addr))), (8, .pointer (some (⟨B_103, 0, none⟩ : Addr))), (9, .string (Bs r_0_163)), (10, .bool r_1_164), (11, .string (Bs r_0_185)), (12, .bool r_1_186)] ⟨rfl, rfl, rfl, rfl, rfl, rfl, rfl, rfl, rfl, trivial⟩
      refine then_normal ?_
      refine wp_seq ?_
      refine draw' (by kernel_rfl) fun w204 hE205 => ?_
      have hB206 := hB194.ext hE205
      have hB207 := hB195.ext hE205
      have hB208 := hB196.ext hE205
      have hB209 := hB197.ext hE205
      have hC210 : Chg [] w188 w204 := hE205
      have ht211 := ht189 w204    hC210
      obtain ⟨r_213, hc214, ht215⟩ := ht211
      obtain ⟨r_217, hc218, ht219⟩ := ht215
      obtain ⟨r_226, hc227, ht228⟩ := ht219
      obtain ⟨r_232, hc233, ht234⟩ := ht228
      obtain ⟨r_244, hc245, ht246⟩ := ht234
      obtain ⟨r_250, hc251, ht252⟩ := ht246
      obtain ⟨r_262, hc263, ht264⟩ := ht252
      obtain ⟨r_268, hc269, ht270⟩ := ht264
      obtain ⟨r_280, hc281, ht282⟩ := ht270
      obtain ⟨r_286, hc287, ht288⟩ := ht282
      obtain ⟨r_300, hc301, ht302⟩ := ht288
      obtain ⟨r_308, hc309, ht310⟩ := ht302
      obtain ⟨r_322, hc323, ht324⟩ := ht310
      obtain ⟨r_330, hc331, ht332⟩ := ht324
      obtain ⟨r_360, hc361, ht362⟩ := ht332
      obtain ⟨r_367, hc368, ht369⟩ := ht362
      refine par (D := [[], [0], [], [0, 1, 2], [0, 1, 2, 3], [0, 1, 2, 3, 4], [0, 1, 2, 3, 4, 5], [0, 1, 2, 3, 4, 5, 6], [0, 1, 2, 3, 4, 5], [0, 1, 2, 3, 4, 5, 6, 7, 8], [0, 1, 2, 3, 4, 5, 6, 7, 8, 9], [0, 1, 2, 3, 4, 5, 6, 7, 8, 9, 10], [0, 1, 2, 3, 4, 5, 6, 7, 8, 9, 10, 11], [0, 1, 2, 3, 4, 5, 6, 7, 8, 9, 10, 11, 12], [0, 1, 2, 3, 4, 5, 6, 7, 8, 9, 10, 11, 12, 13], [0, 1, 2, 3, 4, 5, 6, 7, 8, 9, 10, 11, 12], [0, 1, 2, 3, 4, 5, 6, 7, 8, 9, 10, 11, 12, 13, 14, 15], [0, 1, 2, 3, 4, 5, 6, 7, 8, 9, 10, 11, 12, 13, 14, 15, 16], [0, 1, 2, 3, 4, 5, 6, 7, 8, 9, 10, 11, 12, 13, 14, 15, 16, 17], [0, 1, 2, 3, 4, 5, 6, 7, 8, 9, 10, 11, 12, 13, 14, 15, 16, 17, 18], [0, 1, 2, 3, 4, 5, 6, 7, 8, 9, 10, 11, 12, 13, 14, 15, 16, 17, 18, 19], [0, 1, 2, 3, 4, 5, 6, 7, 8, 9, 10, 11, 12, 13, 14, 15, 16, 17, 18, 19, 20], [0, 1, 2, 3, 4, 5, 6, 7, 8, 9, 10, 11, 12, 13, 14, 15, 16, 17, 18, 19], [0, 1, 2, 3, 4, 5, 6, 7, 8, 9, 10, 11, 12, 13, 14, 15, 16, 17, 18, 19, 20, 21, 22], [0, 1, 2, 3, 4, 5, 6, 7, 8, 9, 10, 11, 12, 13, 14, 15, 16, 17, 18, 19, 20, 21, 22, 23], [0, 1, 2, 3, 4, 5, 6, 7, 8, 9, 10, 11, 12, 13, 14, 15, 16, 17, 18, 19, 20, 21, 22, 23, 24], [0, 1, 2, 3, 4, 5, 6, 7, 8, 9, 10, 11, 12, 13, 14, 15, 16, 17, 18, 19, 20, 21, 22, 23, 24, 25], [0, 1, 2, 3, 4, 5, 6, 7, 8, 9, 10, 11, 12, 13, 14, 15, 16, 17, 18, 19, 20, 21, 22, 23, 24, 25, 26], [0, 1, 2, 3, 4, 5, 6, 7, 8, 9, 10, 11, 12, 13, 14, 15, 16, 17, 18, 19, 20, 21, 22, 23, 24, 25, 26, 27], [0, 1, 2, 3, 4, 5, 6, 7, 8, 9, 10, 11, 12, 13, 14, 15, 16, 17, 18, 19, 20, 21, 22, 23, 24, 25, 26], [0, 1, 2, 3, 4, 5, 6, 7, 8, 9, 10, 11, 12, 13, 14, 15, 16, 17, 18, 19, 20, 21, 22, 23, 24, 25, 26, 27, 28, 29], [0, 1, 2, 3, 4, 5, 6, 7, 8, 9, 10, 11, 12, 13, 14, 15, 16, 17, 18, 19, 20, 21, 22, 23, 24, 25, 26, 27, 28, 29, 30], [0, 1, 2, 3, 4, 5, 6, 7, 8, 9, 10, 11, 12, 13, 14, 15, 16, 17, 18, 19, 20, 21, 22, 23, 24, 25, 26, 27, 28, 29, 30, 31], [0, 1, 2, 3, 4, 5, 6, 7, 8, 9, 10, 11, 12, 13, 14, 15, 16, 17, 18, 19, 20, 21, 22, 23, 24, 25, 26, 27, 28, 29, 30, 31, 32], [0, 1, 2, 3, 4, 5, 6, 7, 8, 9, 10, 11, 12, 13, 14, 15, 16, 17, 18, 19, 20, 21, 22, 23, 24, 25, 26, 27, 28, 29, 30, 31, 32, 33], [0, 1, 2, 3, 4, 5, 6, 7, 8, 9, 10, 11, 12, 13, 14, 15, 16, 17, 18, 19, 20, 21, 22, 23, 24, 25, 26, 27, 28, 29, 30, 31, 32, 33], [0, 1, 2, 3, 4, 5, 6, 7, 8, 9, 10, 11, 12, 13, 14, 15, 16, 17, 18, 19, 20, 21, 22, 23, 24, 25, 26, 27, 28, 29, 30, 31, 32, 33, 34, 35], [0, 1, 2, 3, 4, 5, 6, 7, 8, 9, 10, 11, 12, 13, 14, 15, 16, 17, 18, 19, 20, 21, 22, 23, 24, 25, 26, 27, 28, 29, 30, 31, 32, 33], [0, 1, 2, 3, 4, 5, 6, 7, 8, 9, 10, 11, 12, 13, 14, 15, 16, 17, 18, 19, 20, 21, 22, 23, 24, 25, 26, 27, 28, 29, 30, 31, 32, 33], [0, 1, 2, 3, 4, 5, 6, 7, 8, 9, 10, 11, 12, 13, 14, 15, 16, 17, 18, 19, 20, 21, 22, 23, 24, 25, 26, 27, 28, 29, 30, 31, 32, 33, 34, 35, 36, 37, 38], [0, 1, 2, 3, 4, 5, 6, 7, 8, 9, 10, 11, 12, 13, 14, 15, 16, 17, 18, 19, 20, 21, 22, 23, 24, 25, 26, 27, 28, 29, 30, 31, 32, 33, 34, 35, 36, 37, 38, 39], [0, 1, 2, 3, 4, 5, 6, 7, 8, 9, 10, 11, 12, 13, 14, 15, 16, 17, 18, 19, 20, 21, 22, 23, 24, 25, 26, 27, 28, 29, 30, 31, 32, 33, 34, 35, 36, 37, 38, 39, 40], [0, 1, 2, 3, 4, 5, 6, 7, 8, 9, 10, 11, 12, 13, 14, 15, 16, 17, 18, 19, 20, 21, 22, 23, 24, 25, 26, 27, 28, 29, 30, 31, 32, 33, 34, 35, 36, 37, 38, 39, 40, 41], [0, 1, 2, 3, 4, 5, 6, 7, 8, 9, 10, 11, 12, 13, 14, 15, 16, 17, 18, 19, 20, 21, 22, 23, 24, 25, 26, 27, 28, 29, 30, 31, 32, 33, 34, 35, 36, 37, 38, 39, 40, 41, 42], [0, 1, 2, 3, 4, 5, 6, 7, 8, 9, 10, 11, 12, 13, 14, 15, 16, 17, 18, 19, 20, 21, 22, 23, 24, 25, 26, 27, 28, 29, 30, 31, 32, 33, 34, 35, 36, 37, 38, 39, 40, 41, 42], [0, 1, 2, 3, 4, 5, 6, 7, 8, 9, 10, 11, 12, 13, 14, 15, 16, 17, 18, 19, 20, 21, 22, 23, 24, 25, 26, 27, 28, 29, 30, 31, 32, 33, 34, 35, 36, 37, 38, 39, 40, 41, 42, 43, 44], [0, 1, 2, 3, 4, 5, 6, 7, 8, 9, 10, 11, 12, 13, 14, 15, 16, 17, 18, 19, 20, 21, 22, 23, 24, 25, 26, 27, 28, 29, 30, 31, 32, 33, 34, 35, 36, 37, 38, 39, 40, 41, 42], [0, 1, 2, 3, 4, 5, 6, 7, 8, 9, 10, 11, 12, 13, 14, 15, 16, 17, 18, 19, 20, 21, 22, 23, 24, 25, 26, 27, 28, 29, 30, 31, 32, 33, 34, 35, 36, 37, 38, 39, 40, 41, 42], [0, 1, 2, 3, 4, 5, 6, 7, 8, 9, 10, 11, 12, 13, 14, 15, 16, 17, 18, 19, 20, 21, 22, 23, 24, 25, 26, 27, 28, 29, 30, 31, 32, 33, 34, 35, 36, 37, 38, 39, 40, 41, 42, 43, 44, 45, 46, 47], [0, 1, 2, 3, 4, 5, 6, 7, 8, 9, 10, 11, 12, 13, 14, 15, 16, 17, 18, 19, 20, 21, 22, 23, 24, 25, 26, 27, 28, 29, 30, 31, 32, 33, 34, 35, 36, 37, 38, 39, 40, 41, 42, 43, 44, 45, 46, 47, 48], [0, 1, 2, 3, 4, 5, 6, 7, 8, 9, 10, 11, 12, 13, 14, 15, 16, 17, 18, 19, 20, 21, 22, 23, 24, 25, 26, 27, 28, 29, 30, 31, 32, 33, 34, 35, 36, 37, 38, 39, 40, 41, 42, 43, 44, 45, 46, 47, 48, 49], [0, 1, 2, 3, 4, 5, 6, 7, 8, 9, 10, 11, 12, 13, 14, 15, 16, 17, 18, 19, 20, 21, 22, 23, 24, 25, 26, 27, 28, 29, 30, 31, 32, 33, 34, 35, 36, 37, 38, 39, 40, 41, 42, 43, 44, 45, 46, 47, 48, 49, 50], [0, 1, 2, 3, 4, 5, 6, 7, 8, 9, 10, 11, 12, 13, 14, 15, 16, 17, 18, 19, 20, 21, 22, 23, 24, 25, 26, 27, 28, 29, 30, 31, 32, 33, 34, 35, 36, 37, 38, 39, 40, 41, 42, 43, 44, 45, 46, 47, 48, 49, 50, 51], [0, 1, 2, 3, 4, 5, 6, 7, 8, 9, 10, 11, 12, 13, 14, 15, 16, 17, 18, 19, 20, 21, 22, 23, 24, 25, 26, 27, 28, 29, 30, 31, 32, 33, 34, 35, 36, 37, 38, 39, 40, 41, 42, 43, 44, 45, 46, 47, 48, 49, 50, 51], [0, 1, 2, 3, 4, 5, 6, 7, 8, 9, 10, 11, 12, 13, 14, 15, 16, 17, 18, 19, 20, 21, 22, 23, 24, 25, 26, 27, 28, 29, 30, 31, 32, 33, 34, 35, 36, 37, 38, 39, 40, 41, 42, 43, 44, 45, 46, 47, 48, 49, 50, 51, 52, 53], [0, 1, 2, 3, 4, 5, 6, 7, 8, 9, 10, 11, 12, 13, 14, 15, 16, 17, 18, 19, 20, 21, 22, 23, 24, 25, 26, 27, 28, 29, 30, 31, 32, 33, 34, 35, 36, 37, 38, 39, 40, 41, 42, 43, 44, 45, 46, 47, 48, 49, 50, 51, 52, 53, 54], [0, 1, 2, 3, 4, 5, 6, 7, 8, 9, 10, 11, 12, 13, 14, 15, 16, 17, 18, 19, 20, 21, 22, 23, 24, 25, 26, 27, 28, 29, 30, 31, 32, 33, 34, 35, 36, 37, 38, 39, 40, 41, 42, 43, 44, 45, 46, 47, 48, 49, 50, 51, 52, 53, 54, 55], [0, 1, 2, 3, 4, 5, 6, 7, 8, 9, 10, 11, 12, 13, 14, 15, 16, 17, 18, 19, 20, 21, 22, 23, 24, 25, 26, 27, 28, 29, 30, 31, 32, 33, 34, 35, 36, 37, 38, 39, 40, 41, 42, 43, 44, 45, 46, 47, 48, 49, 50, 51, 52, 53, 54, 55, 56], [0, 1, 2, 3, 4, 5, 6, 7, 8, 9, 10, 11, 12, 13, 14, 15, 16, 17, 18, 19, 20, 21, 22, 23, 24, 25, 26, 27, 28, 29, 30, 31, 32, 33, 34, 35, 36, 37, 38, 39, 40, 41, 42, 43, 44, 45, 46, 47, 48, 49, 50, 51, 52, 53, 54, 55, 56], [0, 1, 2, 3, 4, 5, 6, 7, 8, 9, 10, 11, 12, 13, 14, 15, 16, 17, 18, 19, 20, 21, 22, 23, 24, 25, 26, 27, 28, 29, 30, 31, 32, 33, 34, 35, 36, 37, 38, 39, 40, 41, 42, 43, 44, 45, 46, 47, 48, 49, 50, 51, 52, 53, 54, 55, 56, 57, 58], [0, 1, 2, 3, 4, 5, 6, 7, 8, 9, 10, 11, 12, 13, 14, 15, 16, 17, 18, 19, 20, 21, 22, 23, 24, 25, 26, 27, 28, 29, 30, 31, 32, 33, 34, 35, 36, 37, 38, 39, 40, 41, 42, 43, 44, 45, 46, 47, 48, 49, 50, 51, 52, 53, 54, 55, 56, 57, 58, 59], [0, 1, 2, 3, 4, 5, 6, 7, 8, 9, 10, 11, 12, 13, 14, 15, 16, 17, 18, 19, 20, 21, 22, 23, 24, 25, 26, 27, 28, 29, 30, 31, 32, 33, 34, 35, 36, 37, 38, 39, 40, 41, 42, 43, 44, 45, 46, 47, 48, 49, 50, 51, 52, 53, 54, 55, 56, 57, 58, 59, 60], [0, 1, 2, 3, 4, 5, 6, 7, 8, 9, 10, 11, 12, 13, 14, 15, 16, 17, 18, 19, 20, 21, 22, 23, 24, 25, 26, 27, 28, 29, 30, 31, 32, 33, 34, 35, 36, 37, 38, 39, 40, 41, 42, 43, 44, 45, 46, 47, 48, 49, 50, 51, 52, 53, 54, 55, 56, 57, 58, 59, 60, 61], [0, 1, 2, 3, 4, 5, 6, 7, 8, 9, 10, 11, 12, 13, 14, 15, 16, 17, 18, 19, 20, 21, 22, 23, 24, 25, 26, 27, 28, 29, 30, 31, 32, 33, 34, 35, 36, 37, 38, 39, 40, 41, 42, 43, 44, 45, 46, 47, 48, 49, 50, 51, 52, 53, 54, 55, 56, 57, 58, 59, 60, 61], [0, 1, 2, 3, 4, 5, 6, 7, 8, 9, 10, 11, 12, 13, 14, 15, 16, 17, 18, 19, 20, 21, 22, 23, 24, 25, 26, 27, 28, 29, 30, 31, 32, 33, 34, 35, 36, 37, 38, 39, 40, 41, 42, 43, 44, 45, 46, 47, 48, 49, 50, 51, 52, 53, 54, 55, 56, 57, 58, 59, 60, 61, 62, 63], [0, 1, 2, 3, 4, 5, 6, 7, 8, 9, 10, 11, 12, 13, 14, 15, 16, 17, 18, 19, 20, 21, 22, 23, 24, 25, 26, 27, 28, 29, 30, 31, 32, 33, 34, 35, 36, 37, 38, 39, 40, 41, 42, 43, 44, 45, 46, 47, 48, 49, 50, 51, 52, 53, 54, 55, 56, 57, 58, 59, 60, 61, 62, 63, 64], [0, 1, 2, 3, 4, 5, 6, 7, 8, 9, 10, 11, 12, 13, 14, 15, 16, 17, 18, 19, 20, 21, 22, 23, 24, 25, 26, 27, 28, 29, 30, 31, 32, 33, 34, 35, 36, 37, 38, 39, 40, 41, 42, 43, 44, 45, 46, 47, 48, 49, 50, 51, 52, 53, 54, 55, 56, 57, 58, 59, 60, 61, 62, 63, 64, 65], [0, 1, 2, 3, 4, 5, 6, 7, 8, 9, 10, 11, 12, 13, 14, 15, 16, 17, 18, 19, 20, 21, 22, 23, 24, 25, 26, 27, 28, 29, 30, 31, 32, 33, 34, 35, 36, 37, 38, 39, 40, 41, 42, 43, 44, 45, 46, 47, 48, 49, 50, 51, 52, 53, 54, 55, 56, 57, 58, 59, 60, 61, 62, 63, 64, 65, 66], [0, 1, 2, 3, 4, 5, 6, 7, 8, 9, 10, 11, 12, 13, 14, 15, 16, 17, 18, 19, 20, 21, 22, 23, 24, 25, 26, 27, 28, 29, 30, 31, 32, 33, 34, 35, 36, 37, 38, 39, 40, 41, 42, 43, 44, 45, 46, 47, 48, 49, 50, 51, 52, 53, 54, 55, 56, 57, 58, 59, 60, 61, 62, 63, 64, 65, 66, 67], [0, 1, 2, 3, 4, 5, 6, 7, 8, 9, 10, 11, 12, 13, 14, 15, 16, 17, 18, 19, 20, 21, 22, 23, 24, 25, 26, 27, 28, 29, 30, 31, 32, 33, 34, 35, 36, 37, 38, 39, 40, 41, 42, 43, 44, 45, 46, 47, 48, 49, 50, 51, 52, 53, 54, 55, 56, 57, 58, 59, 60, 61, 62, 63, 64, 65, 66, 67, 68]]) (S := [0, 1, 2, 3, 4, 5, 6, 7, 8, 9, 10, 11, 12, 13, 14, 15, 16, 17, 18, 19, 20, 21, 22, 23, 24, 25, 26, 27, 28, 29, 30, 31, 32, 33, 34, 35, 36, 37, 38, 39, 40, 41, 42, 43, 44, 45, 46, 47, 48, 49, 50, 51, 52, 53, 54, 55, 56, 57, 58, 59, 60, 61, 62, 63, 64, 65, 66, 67, 68, 69]) (F := []) (V := VL ((0, fun v _ => v = .agg #[.int .i64 r_80_Kind, .string (Bs r_80_Name), .string (Bs r_80_Text), Sl.v r_80_Attrs, Sl.v r_80_Kids]) :: (1, fun v _ => v = .bool r_213) :: (2, fun v _ => v = .agg #[.int .i64 a_1_Kind, .string (Bs a_1_Name), .string (Bs a_1_Text), Sl.v a_1_Attrs, Sl.v a_1_Kids]) :: (3, fun v _ => v = .bool r_217) :: (4, fun v _ => v = .bool (r_213 == r_217)) :: (5, fun v _ => v = .bool (r_213 == r_217)) :: (6, fun v _ => v = cV (true && ((r_213 == r_217) == true)) (.string (Bs name_3))) :: (7, fun v _ => v = cV (true && ((r_213 == r_217) == true)) (.bool r_226)) :: (8, fun v _ => v = cV (true && ((r_213 == r_217) == true)) (.string (Bs name_3))) :: (9, fun v _ => v = cV (true && ((r_213 == r_217) == true)) (.bool r_232)) :: (10, fun v _ => v = cV (true && ((r_213 == r_217) == true)) (.bool (r_226 == r_232))) :: (11, fun v _ => v = .bool ((r_213 == r_217) && (r_226 == r_232))) :: (12, fun v _ => v = .bool ((r_213 == r_217) && (r_226 == r_232))) :: (13, fun v _ => v = cV (true && (((r_213 == r_217) && (r_226 == r_232)) == true)) (.agg #[.int .i64 r_80_Kind, .string (Bs r_80_Name), .string (Bs r_80_Text), Sl.v r_80_Attrs, Sl.v r_80_Kids])) :: (14, fun v _ => v = cV (true && (((r_213 == r_217) && (r_226 == r_232)) == true)) (.int .i64 r_244)) :: (15, fun v _ => v = cV (true && (((r_213 == r_217) && (r_226 == r_232)) == true)) (.agg #[.int .i64 a_1_Kind, .string (Bs a_1_Name), .string (Bs a_1_Text), Sl.v a_1_Attrs, Sl.v a_1_Kids])) :: (16, fun v _ => v = cV (true && (((r_213 == r_217) && (r_226 == r_232)) == true)) (.int .i64 r_250)) :: (17, fun v _ => v = cV (true && (((r_213 == r_217) && (r_226 == r_232)) == true)) (.bool (decide (r_244 = r_250)))) :: (18, fun v _ => v = .bool (((r_213 == r_217) && (r_226 == r_232)) && (decide (r_244 = r_250)))) :: (19, fun v _ => v = .bool (((r_213 == r_217) && (r_226 == r_232)) && (decide (r_244 = r_250)))) :: (20, fun v _ => v = cV (true && ((((r_213 == r_217) && (r_226 == r_232)) && (decide (r_244 = r_250))) == true)) (.agg #[.int .i64 r_80_Kind, .string (Bs r_80_Name), .string (Bs r_80_Text), Sl.v r_80_Attrs, Sl.v r_80_Kids])) :: (21, fun v _ => v = cV (true && ((((r_213 == r_217) && (r_226 == r_232)) && (decide (r_244 = r_250))) == true)) (.int .i64 r_262)) :: (22, fun v _ => v = cV (true && ((((r_213 == r_217) && (r_226 == r_232)) && (decide (r_244 = r_250))) == true)) (.agg #[.int .i64 a_1_Kind, .string (Bs a_1_Name), .string (Bs a_1_Text), Sl.v a_1_Attrs, Sl.v a_1_Kids])) :: (23, fun v _ => v = cV (true && ((((r_213 == r_217) && (r_226 == r_232)) && (decide (r_244 = r_250))) == true)) (.int .i64 r_268)) :: (24, fun v _ => v = cV (true && ((((r_213 == r_217) && (r_226 == r_232)) && (decide (r_244 = r_250))) == true)) (.bool (decide (r_262 = r_268)))) :: (25, fun v _ => v = .bool ((((r_213 == r_217) && (r_226 == r_232)) && (decide (r_244 = r_250))) && (decide (r_262 = r_268)))) :: (26, fun v _ => v = .bool ((((r_213 == r_217) && (r_226 == r_232)) && (decide (r_244 = r_250))) && (decide (r_262 = r_268)))) :: (27, fun v _ => v = cV (true && (((((r_213 == r_217) && (r_226 == r_232)) && (decide (r_244 = r_250))) && (decide (r_262 = r_268))) == true)) (.agg #[.int .i64 r_80_Kind, .string (Bs r_80_Name), .string (Bs r_80_Text), Sl.v r_80_Attrs, Sl.v r_80_Kids])) :: (28, fun v _ => v = cV (true && (((((r_213 == r_217) && (r_226 == r_232)) && (decide (r_244 = r_250))) && (decide (r_262 = r_268))) == true)) (.int .i64 r_280)) :: (29, fun v _ => v = cV (true && (((((r_213 == r_217) && (r_226 == r_232)) && (decide (r_244 = r_250))) && (decide (r_262 = r_268))) == true)) (.agg #[.int .i64 a_1_Kind, .string (Bs a_1_Name), .string (Bs a_1_Text), Sl.v a_1_Attrs, Sl.v a_1_Kids])) :: (30, fun v _ => v = cV (true && (((((r_213 == r_217) && (r_226 == r_232)) && (decide (r_244 = r_250))) && (decide (r_262 = r_268))) == true)) (.int .i64 r_286)) :: (31, fun v _ => v = cV (true && (((((r_213 == r_217) && (r_226 == r_232)) && (decide (r_244 = r_250))) && (decide (r_262 = r_268))) == true)) (.bool (decide (r_280 = r_286)))) :: (32, fun v _ => v = .bool (((((r_213 == r_217) && (r_226 == r_232)) && (decide (r_244 = r_250))) && (decide (r_262 = r_268))) && (decide (r_280 = r_286)))) :: (33, fun v _ => v = .bool (((((r_213 == r_217) && (r_226 == r_232)) && (decide (r_244 = r_250))) && (decide (r_262 = r_268))) && (decide (r_280 = r_286)))) :: (34, fun v _ => v = cV (true && ((((((r_213 == r_217) && (r_226 == r_232)) && (decide (r_244 = r_250))) && (decide (r_262 = r_268))) && (decide (r_280 = r_286))) == true)) (.agg #[.int .i64 r_80_Kind, .string (Bs r_80_Name), .string (Bs r_80_Text), Sl.v r_80_Attrs, Sl.v r_80_Kids])) :: (35, fun v _ => v = cV (true && ((((((r_213 == r_217) && (r_226 == r_232)) && (decide (r_244 = r_250))) && (decide (r_262 = r_268))) && (decide (r_280 = r_286))) == true)) (.agg #[.int .i64 r_90_Kind, .string (Bs r_90_Name), .string (Bs r_90_Text), Sl.v r_90_Attrs, Sl.v r_90_Kids])) :: (36, fun v _ => v = cV (true && ((((((r_213 == r_217) && (r_226 == r_232)) && (decide (r_244 = r_250))) && (decide (r_262 = r_268))) && (decide (r_280 = r_286))) == true)) (.bool r_300)) :: (37, fun v _ => v = cV (true && ((((((r_213 == r_217) && (r_226 == r_232)) && (decide (r_244 = r_250))) && (decide (r_262 = r_268))) && (decide (r_280 = r_286))) == true)) (.agg #[.int .i64 a_1_Kind, .string (Bs a_1_Name), .string (Bs a_1_Text), Sl.v a_1_Attrs, Sl.v a_1_Kids])) :: (38, fun v _ => v = cV (true && ((((((r_213 == r_217) && (r_226 == r_232)) && (decide (r_244 = r_250))) && (decide (r_262 = r_268))) && (decide (r_280 = r_286))) == true)) (.agg #[.int .i64 b_2_Kind, .string (Bs b_2_Name), .string (Bs b_2_Text), Sl.v b_2_Attrs, Sl.v b_2_Kids])) :: (39, fun v _ => v = cV (true && ((((((r_213 == r_217) && (r_226 == r_232)) && (decide (r_244 = r_250))) && (decide (r_262 = r_268))) && (decide (r_280 = r_286))) == true)) (.bool r_308)) :: (40, fun v _ => v = cV (true && ((((((r_213 == r_217) && (r_226 == r_232)) && (decide (r_244 = r_250))) && (decide (r_262 = r_268))) && (decide (r_280 = r_286))) == true)) (.bool (r_300 == r_308))) :: (41, fun v _ => v = .bool ((((((r_213 == r_217) && (r_226 == r_232)) && (decide (r_244 = r_250))) && (decide (r_262 = r_268))) && (decide (r_280 = r_286))) && (r_300 == r_308))) :: (42, fun v _ => v = .bool ((((((r_213 == r_217) && (r_226 == r_232)) && (decide (r_244 = r_250))) && (decide (r_262 = r_268))) && (decide (r_280 = r_286))) && (r_300 == r_308))) :: (43, fun v _ => v = cV (true && (((((((r_213 == r_217) && (r_226 == r_232)) && (decide (r_244 = r_250))) && (decide (r_262 = r_268))) && (decide (r_280 = r_286))) && (r_300 == r_308)) == true)) (.agg #[.int .i64 r_80_Kind, .string (Bs r_80_Name), .string (Bs r_80_Text), Sl.v r_80_Attrs, Sl.v r_80_Kids])) :: (44, fun v _ => v = cV (true && (((((((r_213 == r_217) && (r_226 == r_232)) && (decide (r_244 = r_250))) && (decide (r_262 = r_268))) && (decide (r_280 = r_286))) && (r_300 == r_308)) == true)) (.agg #[.int .i64 r_90_Kind, .string (Bs r_90_Name), .string (Bs r_90_Text), Sl.v r_90_Attrs, Sl.v r_90_Kids])) :: (45, fun v _ => v = cV (true && (((((((r_213 == r_217) && (r_226 == r_232)) && (decide (r_244 = r_250))) && (decide (r_262 = r_268))) && (decide (r_280 = r_286))) && (r_300 == r_308)) == true)) (.int .i64 r_322)) :: (46, fun v _ => v = cV (true && (((((((r_213 == r_217) && (r_226 == r_232)) && (decide (r_244 = r_250))) && (decide (r_262 = r_268))) && (decide (r_280 = r_286))) && (r_300 == r_308)) == true)) (.agg #[.int .i64 a_1_Kind, .string (Bs a_1_Name), .string (Bs a_1_Text), Sl.v a_1_Attrs, Sl.v a_1_Kids])) :: (47, fun v _ => v = cV (true && (((((((r_213 == r_217) && (r_226 == r_232)) && (decide (r_244 = r_250))) && (decide (r_262 = r_268))) && (decide (r_280 = r_286))) && (r_300 == r_308)) == true)) (.agg #[.int .i64 b_2_Kind, .string (Bs b_2_Name), .string (Bs b_2_Text), Sl.v b_2_Attrs, Sl.v b_2_Kids])) :: (48, fun v _ => v = cV (true && (((((((r_213 == r_217) && (r_226 == r_232)) && (decide (r_244 = r_250))) && (decide (r_262 = r_268))) && (decide (r_280 = r_286))) && (r_300 == r_308)) == true)) (.int .i64 r_330)) :: (49, fun v _ => v = cV (true && (((((((r_213 == r_217) && (r_226 == r_232)) && (decide (r_244 = r_250))) && (decide (r_262 = r_268))) && (decide (r_280 = r_286))) && (r_300 == r_308)) == true)) (.bool (decide (r_322 = r_330)))) :: (50, fun v _ => v = .bool (((((((r_213 == r_217) && (r_226 == r_232)) && (decide (r_244 = r_250))) && (decide (r_262 = r_268))) && (decide (r_280 = r_286))) && (r_300 == r_308)) && (decide (r_322 = r_330)))) :: (51, fun v _ => v = .bool (((((((r_213 == r_217) && (r_226 == r_232)) && (decide (r_244 = r_250))) && (decide (r_262 = r_268))) && (decide (r_280 = r_286))) && (r_300 == r_308)) && (decide (r_322 = r_330)))) :: (52, fun v _ => v = cV (true && ((((((((r_213 == r_217) && (r_226 == r_232)) && (decide (r_244 = r_250))) && (decide (r_262 = r_268))) && (decide (r_280 = r_286))) && (r_300 == r_308)) && (decide (r_322 = r_330))) == true)) (.string (Bs r_0_163))) :: (53, fun v _ => v = cV (true && ((((((((r_213 == r_217) && (r_226 == r_232)) && (decide (r_244 = r_250))) && (decide (r_262 = r_268))) && (decide (r_280 = r_286))) && (r_300 == r_308)) && (decide (r_322 = r_330))) == true)) (.string (Bs r_0_185))) :: (54, fun v _ => v = cV (true && ((((((((r_213 == r_217) && (r_226 == r_232)) && (decide (r_244 = r_250))) && (decide (r_262 = r_268))) && (decide (r_280 = r_286))) && (r_300 == r_308)) && (decide (r_322 = r_330))) == true)) (.bool (decide (r_0_163 = r_0_185)))) :: (55, fun v _ => v = .bool ((((((((r_213 == r_217) && (r_226 == r_232)) && (decide (r_244 = r_250))) && (decide (r_262 = r_268))) && (decide (r_280 = r_286))) && (r_300 == r_308)) && (decide (r_322 = r_330))) && (decide (r_0_163 = r_0_185)))) :: (56, fun v _ => v = .bool ((((((((r_213 == r_217) && (r_226 == r_232)) && (decide (r_244 = r_250))) && (decide (r_262 = r_268))) && (decide (r_280 = r_286))) && (r_300 == r_308)) && (decide (r_322 = r_330))) && (decide (r_0_163 = r_0_185)))) :: (57, fun v _ => v = cV (true && (((((((((r_213 == r_217) && (r_226 == r_232)) && (decide (r_244 = r_250))) && (decide (r_262 = r_268))) && (decide (r_280 = r_286))) && (r_300 == r_308)) && (decide (r_322 = r_330))) && (decide (r_0_163 = r_0_185))) == true)) (.bool r_1_164)) :: (58, fun v _ => v = cV (true && (((((((((r_213 == r_217) && (r_226 == r_232)) && (decide (r_244 = r_250))) && (decide (r_262 = r_268))) && (decide (r_280 = r_286))) && (r_300 == r_308)) && (decide (r_322 = r_330))) && (decide (r_0_163 = r_0_185))) == true)) (.bool r_1_186)) :: (59, fun v _ => v = cV (true && (((((((((r_213 == r_217) && (r_226 == r_232)) && (decide (r_244 = r_250))) && (decide (r_262 = r_268))) && (decide (r_280 = r_286))) && (r_300 == r_308)) && (decide (r_322 = r_330))) && (decide (r_0_163 = r_0_185))) == true)) (.bool (r_1_164 == r_1_186))) :: (60, fun v _ => v = .bool (((((((((r_213 == r_217) && (r_226 == r_232)) && (decide (r_244 = r_250))) && (decide (r_262 = r_268))) && (decide (r_280 = r_286))) && (r_300 == r_308)) && (decide (r_322 = r_330))) && (decide (r_0_163 = r_0_185))) && (r_1_164 == r_1_186))) :: (61, fun v _ => v = .bool (((((((((r_213 == r_217) && (r_226 == r_232)) && (decide (r_244 = r_250))) && (decide (r_262 = r_268))) && (decide (r_280 = r_286))) && (r_300 == r_308)) && (decide (r_322 = r_330))) && (decide (r_0_163 = r_0_185))) && (r_1_164 == r_1_186))) :: (62, fun v _ => v = cV (true && ((((((((((r_213 == r_217) && (r_226 == r_232)) && (decide (r_244 = r_250))) && (decide (r_262 = r_268))) && (decide (r_280 = r_286))) && (r_300 == r_308)) && (decide (r_322 = r_330))) && (decide (r_0_163 = r_0_185))) && (r_1_164 == r_1_186)) == true)) (.agg #[.int .i64 r_80_Kind, .string (Bs r_80_Name), .string (Bs r_80_Text), Sl.v r_80_Attrs, Sl.v r_80_Kids])) :: (63, fun v _ => v = cV (true && ((((((((((r_213 == r_217) && (r_226 == r_232)) && (decide (r_244 = r_250))) && (decide (r_262 = r_268))) && (decide (r_280 = r_286))) && (r_300 == r_308)) && (decide (r_322 = r_330))) && (decide (r_0_163 = r_0_185))) && (r_1_164 == r_1_186)) == true)) (.agg #[.int .i64 a_1_Kind, .string (Bs a_1_Name), .string (Bs a_1_Text), Sl.v a_1_Attrs, Sl.v a_1_Kids])) :: (64, fun v _ => v = cV (true && ((((((((((r_213 == r_217) && (r_226 == r_232)) && (decide (r_244 = r_250))) && (decide (r_262 = r_268))) && (decide (r_280 = r_286))) && (r_300 == r_308)) && (decide (r_322 = r_330))) && (decide (r_0_163 = r_0_185))) && (r_1_164 == r_1_186)) == true)) (.bool r_360)) :: (65, fun v _ => v = .bool ((((((((((r_213 == r_217) && (r_226 == r_232)) && (decide (r_244 = r_250))) && (decide (r_262 = r_268))) && (decide (r_280 = r_286))) && (r_300 == r_308)) && (decide (r_322 = r_330))) && (decide (r_0_163 = r_0_185))) && (r_1_164 == r_1_186)) && r_360)) :: (66, fun v _ => v = .bool ((((((((((r_213 == r_217) && (r_226 == r_232)) && (decide (r_244 = r_250))) && (decide (r_262 = r_268))) && (decide (r_280 = r_286))) && (r_300 == r_308)) && (decide (r_322 = r_330))) && (decide (r_0_163 = r_0_185))) && (r_1_164 == r_1_186)) && r_360)) :: (67, fun v _ => v = cV (true && (((((((((((r_213 == r_217) && (r_226 == r_232)) && (decide (r_244 = r_250))) && (decide (r_262 = r_268))) && (decide (r_280 = r_286))) && (r_300 == r_308)) && (decide (r_322 = r_330))) && (decide (r_0_163 = r_0_185))) && (r_1_164 == r_1_186)) && r_360) == true)) (.bool r_367)) :: (68, fun v _ => v = .bool (((((((((((r_213 == r_217) && (r_226 == r_232)) && (decide (r_244 = r_250))) && (decide (r_262 = r_268))) && (decide (r_280 = r_286))) && (r_300 == r_308)) && (decide (r_322 = r_330))) && (decide (r_0_163 = r_0_185))) && (r_1_164 == r_1_186)) && r_360) && r_367)) :: (69, fun v _ => v = .bool (((((((((((r_213 == r_217) && (r_226 == r_232)) && (decide (r_244 = r_250))) && (decide (r_262 = r_268))) && (decide (r_280 = r_286))) && (r_300 == r_308)) && (decide (r_322 = r_330))) && (decide (r_0_163 = r_0_185))) && (r_1_164 == r_1_186)) && r_360) && r_367)) :: [])) hA203 (by kernel_rfl) ⟨fun _ _ _ _ h => by first | exact h | (change _ = _ at h; change _ = _; exact h), fun _ _ _ _ h => by first | exact h | (change _ = _ at h; change _ = _; exact h), fun _ _ _ _ h => by first | exact h | (change _ = _ at h; change _ = _; exact h), fun _ _ _ _ h => by first | exact h | (change _ = _ at h; change _ = _; exact h), fun _ _ _ _ h => by first | exact h | (change _ = _ at h; change _ = _; exact h), fun _ _ _ _ h => by first | exact h | (change _ = _ at h; change _ = _; exact h), fun _ _ _ _ h => by first | exact h | (change _ = _ at h; change _ = _; exact h), fun _ _ _ _ h => by first | exact h | (change _ = _ at h; change _ = _; exact h), fun _ _ _ _ h => by first | exact h | (change _ = _ at h; change _ = _; exact h), fun _ _ _ _ h => by first | exact h | (change _ = _ at h; change _ = _; exact h), fun _ _ _ _ h => by first | exact h | (change _ = _ at h; change _ = _; exact h), fun _ _ _ _ h => by first | exact h | (change _ = _ at h; change _ = _; exact h), fun _ _ _ _ h => by first | exact h | (change _ = _ at h; change _ = _; exact h), fun _ _ _ _ h => by first | exact h | (change _ = _ at h; change _ = _; exact h), fun _ _ _ _ h => by first | exact h | (change _ = _ at h; change _ = _; exact h), fun _ _ _ _ h => by first | exact h | (change _ = _ at h; change _ = _; exact h), fun _ _ _ _ h => by first | exact h | (change _ = _ at h; change _ = _; exact h), fun _ _ _ _ h => by first | exact h | (change _ = _ at h; change _ = _; exact h), fun _ _ _ _ h => by first | exact h | (change _ = _ at h; change _ = _; exact h), fun _ _ _ _ h => by first | exact h | (change _ = _ at h; change _ = _; exact h), fun _ _ _ _ h => by first | exact h | (change _ = _ at h; change _ = _; exact h), fun _ _ _ _ h => by first | exact h | (change _ = _ at h; change _ = _; exact h), fun _ _ _ _ h => by first | exact h | (change _ = _ at h; change _ = _; exact h), fun _ _ _ _ h => by first | exact h | (change _ = _ at h; change _ = _; exact h), fun _ _ _ _ h => by first | exact h | (change _ = _ at h; change _ = _; exact h), fun _ _ _ _ h => by first | exact h | (change _ = _ at h; change _ = _; exact h), fun _ _ _ _ h => by first | exact h | (change _ = _ at h; change _ = _; exact h), fun _ _ _ _ h => by first | exact h | (change _ = _ at h; change _ = _; exact h), fun _ _ _ _ h => by first | exact h | (change _ = _ at h; change _ = _; exact h), fun _ _ _ _ h => by first | exact h | (change _ = _ at h; change _ = _; exact h), fun _ _ _ _ h => by first | exact h | (change _ = _ at h; change _ = _; exact h), fun _ _ _ _ h => by first | exact h | (change _ = _ at h; change _ = _; exact h), fun _ _ _ _ h => by first | exact h | (change _ = _ at h; change _ = _; exact h), fun _ _ _ _ h => by first | exact h | (change _ = _ at h; change _ = _; exact h), fun _ _ _ _ h => by first | exact h | (change _ = _ at h; change _ = _; exact h), fun _ _ _ _ h => by first | exact h | (change _ = _ at h; change _ = _; exact h), fun _ _ _ _ h => by first | exact h | (change _ = _ at h; change _ = _; exact h), fun _ _ _ _ h => by first | exact h | (change _ = _ at h; change _ = _; exact h), fun _ _ _ _ h => by first | exact h | (change _ = _ at h; change _ = _; exact h), fun _ _ _ _ h => by first | exact h | (change _ = _ at h; change _ = _; exact h), fun _ _ _ _ h => by first | exact h | (change _ = _ at h; change _ = _; exact h), fun _ _ _ _ h => by first | exact h | (change _ = _ at h; change _ = _; exact h), fun _ _ _ _ h => by first | exact h | (change _ = _ at h; change _ = _; exact h), fun _ _ _ _ h => by first | exact h | (change _ = _ at h; change _ = _; exact h), fun _ _ _ _ h => by first | exact h | (change _ = _ at h; change _ = _; exact h), fun _ _ _ _ h => by first | exact h | (change _ = _ at h; change _ = _; exact h), fun _ _ _ _ h => by first | exact h | (change _ = _ at h; change _ = _; exact h), fun _ _ _ _ h => by first | exact h | (change _ = _ at h; change _ = _; exact h), fun _ _ _ _ h => by first | exact h | (change _ = _ at h; change _ = _; exact h), fun _ _ _ _ h => by first | exact h | (change _ = _ at h; change _ = _; exact h), fun _ _ _ _ h => by first | exact h | (change _ = _ at h; change _ = _; exact h), fun _ _ _ _ h => by first | exact h | (change _ = _ at h; change _ = _; exact h), fun _ _ _ _ h => by first | exact h | (change _ = _ at h; change _ = _; exact h), fun _ _ _ _ h => by first | exact h | (change _ = _ at h; change _ = _; exact h), fun _ _ _ _ h => by first | exact h | (change _ = _ at h; change _ = _; exact h), fun _ _ _ _ h => by first | exact h | (change _ = _ at h; change _ = _; exact h), fun _ _ _ _ h => by first | exact h | (change _ = _ at h; change _ = _; exact h), fun _ _ _ _ h => by first | exact h | (change _ = _ at h; change _ = _; exact h), fun _ _ _ _ h => by first | exact h | (change _ = _ at h; change _ = _; exact h), fun _ _ _ _ h => by first | exact h | (change _ = _ at h; change _ = _; exact h), fun _ _ _ _ h => by first | exact h | (change _ = _ at h; change _ = _; exact h), fun _ _ _ _ h => by first | exact h | (change _ = _ at h; change _ = _; exact h), fun _ _ _ _ h => by first | exact h | (change _ = _ at h; change _ = _; exact h), fun _ _ _ _ h => by first | exact h | (change _ = _ at h; change _ = _; exact h), fun _ _ _ _ h => by first | exact h | (change _ = _ at h; change _ = _; exact h), fun _ _ _ _ h => by first | exact h | (change _ = _ at h; change _ = _; exact h), fun _ _ _ _ h => by first | exact h | (change _ = _ at h; change _ = _; exact h), fun _ _ _ _ h => by first | exact h | (change _ = _ at h; change _ = _; exact h), fun _ _ _ _ h => by first | exact h | (change _ = _ at h; change _ = _; exact h), fun _ _ _ _ h => by first | exact h | (change _ = _ at h; change _ = _; exact h), trivial⟩ ⟨?_, ?_, ?_, ?_, ?_, ?_, ?_, ?_, ?_, ?_, ?_, ?_, ?_, ?_, ?_, ?_, ?_, ?_, ?_, ?_, ?_, ?_, ?_, ?_, ?_, ?_, ?_, ?_, ?_, ?_, ?_, ?_, ?_, ?_, ?_, ?_, ?_, ?_, ?_, ?_, ?_, ?_, ?_, ?_, ?_, ?_, ?_, ?_, ?_, ?_, ?_, ?_, ?_, ?_, ?_, ?_, ?_, ?_, ?_, ?_, ?_, ?_, ?_, ?_, ?_, ?_, ?_, ?_, ?_, ?_, trivial⟩ ?_
      · intro a w hT
        have hAp := hT.ag hA203 [(7, .pointer (some (⟨B_98, 0, none⟩ : Addr)))] ⟨rfl, trivial⟩ (by kernel_rfl)
        exact opk_val hAp rfl (r_loadN (cs := [.int .i64 r_80_Kind, .string (Bs r_80_Name), .string (Bs r_80_Text), Sl.v r_80_Attrs, Sl.v r_80_Kids]) Try.underlying26 rfl ti_26 (hAp.get rfl) ((hB208.ext hT.chg).part 0 _ rfl)) fun _ _ e => ⟨_, e, Chg.refl _ _, fun _ => Eq.refl _⟩
      · intro a w hT
        have hAp := hT.ag hA203 [] trivial (by kernel_rfl)
        have e212 : a.tmps.getD 44 undef = .agg #[.int .i64 r_80_Kind, .string (Bs r_80_Name), .string (Bs r_80_Text), Sl.v r_80_Attrs, Sl.v r_80_Kids] := hT.vals 0 rfl 44 rfl
        have hAp := hAp.add e212
        exact opk_callX hAp rfl (r_call (args := #[.agg #[.int .i64 r_80_Kind, .string (Bs r_80_Name), .string (Bs r_80_Text), Sl.v r_80_Attrs, Sl.v r_80_Kids]]) Try.func12 (by decide) rfl (map_arr (ml_cons (hAp.get rfl) ml_nil)) rfl) (hc214 w hT.chg) fun _ _ _ _ e hR => ⟨_, e, hR.1, fun _ => hR.2⟩
      · intro a w hT
        have hAp := hT.ag hA203 [(3, .pointer (some (⟨B_4, 0, none⟩ : Addr)))] ⟨rfl, trivial⟩ (by kernel_rfl)
        exact opk_val hAp rfl (r_loadN (cs := [.int .i64 a_1_Kind, .string (Bs a_1_Name), .string (Bs a_1_Text), Sl.v a_1_Attrs, Sl.v a_1_Kids]) Try.underlying26 rfl ti_26 (hAp.get rfl) ((hB206.ext hT.chg).part 0 _ rfl)) fun _ _ e => ⟨_, e, Chg.refl _ _, fun _ => Eq.refl _⟩
      · intro a w hT
        have hAp := hT.ag hA203 [] trivial (by kernel_rfl)
        have e216 : a.tmps.getD 46 undef = .agg #[.int .i64 a_1_Kind, .string (Bs a_1_Name), .string (Bs a_1_Text), Sl.v a_1_Attrs, Sl.v a_1_Kids] := hT.vals 2 rfl 46 rfl
        have hAp := hAp.add e216
        exact opk_callX hAp rfl (r_call (args := #[.agg #[.int .i64 a_1_Kind, .string (Bs a_1_Name), .string (Bs a_1_Text), Sl.v a_1_Attrs, Sl.v a_1_Kids]]) Try.func27 (by decide) rfl (map_arr (ml_cons (hAp.get rfl) ml_nil)) rfl) (hc218 w hT.chg) fun _ _ _ _ e hR => ⟨_, e, hR.1, fun _ => hR.2⟩
      · intro a w hT
        have hAp := hT.ag hA203 [] trivial (by kernel_rfl)
        have e220 : a.tmps.getD 45 undef = .bool r_213 := hT.vals 1 rfl 45 rfl
        have hAp := hAp.add e220
        have e221 : a.tmps.getD 47 undef = .bool r_217 := hT.vals 3 rfl 47 rfl
        have hAp := hAp.add e221
        exact opk_val hAp rfl (r_beql (hAp.get rfl) (hAp.get rfl) Try.underlying4) fun _ _ e => ⟨_, e, Chg.refl _ _, fun _ => Eq.refl _⟩
      · intro a w hT
        have hAp := hT.ag hA203 [] trivial (by kernel_rfl)
        have e222 : a.tmps.getD 48 undef = .bool (r_213 == r_217) := hT.vals 4 rfl 48 rfl
        have hAp := hAp.add e222
        exact opk_val hAp rfl (r_move (hAp.get rfl)) fun _ _ e => ⟨_, e, Chg.refl _ _, fun _ => Eq.refl _⟩
      · intro a w hT
        have hAp := hT.ag hA203 [(2, .string (Bs name_3))] ⟨rfl, trivial⟩ (by kernel_rfl)
        have e223 : a.tmps.getD 49 undef = .bool (r_213 == r_217) := hT.vals 5 rfl 49 rfl
        have hAp := hAp.add e223
        exact opk_gval hAp rfl rfl (g := true) (e := (r_213 == r_217)) rfl (fun hg => r_move (hAp.get rfl)) fun _ _ e => ⟨_, e, Chg.refl _ _, fun _ => Eq.refl _⟩
      · intro a w hT
        have hAp := hT.ag hA203 [] trivial (by kernel_rfl)
        have e224 : a.tmps.getD 49 undef = .bool (r_213 == r_217) := hT.vals 5 rfl 49 rfl
        have hAp := hAp.add e224
        have e225 : a.tmps.getD 50 undef = cV (true && ((r_213 == r_217) == true)) (.string (Bs name_3)) := hT.vals 6 rfl 50 rfl
        have hAp := hAp.add e225
        exact opk_gcall hAp rfl rfl (g := true) (e := (r_213 == r_217)) rfl (fun hg => r_call (args := #[.string (Bs name_3)]) Try.func19 (by decide) rfl (map_arr (ml_cons (cv_get (hAp.get rfl) hg) ml_nil)) rfl) (fun hg => hc227 (g_t hg) w hT.chg) fun _ _ _ e hE => ⟨_, e, hE, fun _ => Eq.refl _⟩
      · intro a w hT
        have hAp := hT.ag hA203 [(2, .string (Bs name_3))] ⟨rfl, trivial⟩ (by kernel_rfl)
        have e229 : a.tmps.getD 49 undef = .bool (r_213 == r_217) := hT.vals 5 rfl 49 rfl
        have hAp := hAp.add e229
        exact opk_gval hAp rfl rfl (g := true) (e := (r_213 == r_217)) rfl (fun hg => r_move (hAp.get rfl)) fun _ _ e => ⟨_, e, Chg.refl _ _, fun _ => Eq.refl _⟩
      · intro a w hT
        have hAp := hT.ag hA203 [] trivial (by kernel_rfl)
        have e230 : a.tmps.getD 49 undef = .bool (r_213 == r_217) := hT.vals 5 rfl 49 rfl
        have hAp := hAp.add e230
        have e231 : a.tmps.getD 52 undef = cV (true && ((r_213 == r_217) == true)) (.string (Bs name_3)) := hT.vals 8 rfl 52 rfl
        have hAp := hAp.add e231
        exact opk_gcall hAp rfl rfl (g := true) (e := (r_213 == r_217)) rfl (fun hg => r_call (args := #[.string (Bs name_3)]) Try.func28 (by decide) rfl (map_arr (ml_cons (cv_get (hAp.get rfl) hg) ml_nil)) rfl) (fun hg => hc233 (g_t hg) w hT.chg) fun _ _ _ e hE => ⟨_, e, hE, fun _ => Eq.refl _⟩
      · intro a w hT
        have hAp := hT.ag hA203 [] trivial (by kernel_rfl)
        have e235 : a.tmps.getD 49 undef = .bool (r_213 == r_217) := hT.vals 5 rfl 49 rfl
        have hAp := hAp.add e235
        have e236 : a.tmps.getD 51 undef = cV (true && ((r_213 == r_217) == true)) (.bool r_226) := hT.vals 7 rfl 51 rfl
        have hAp := hAp.add e236
        have e237 : a.tmps.getD 53 undef = cV (true && ((r_213 == r_217) == true)) (.bool r_232) := hT.vals 9 rfl 53 rfl
        have hAp := hAp.add e237
        exact opk_gval hAp rfl rfl (g := true) (e := (r_213 == r_217)) rfl (fun hg => r_beql (cv_get (hAp.get rfl) hg) (cv_get (hAp.get rfl) hg) Try.underlying4) fun _ _ e => ⟨_, e, Chg.refl _ _, fun _ => Eq.refl _⟩
      · intro a w hT
        have hAp := hT.ag hA203 [] trivial (by kernel_rfl)
        have e238 : a.tmps.getD 49 undef = .bool (r_213 == r_217) := hT.vals 5 rfl 49 rfl
        have hAp := hAp.add e238
        have e239 : a.tmps.getD 54 undef = cV (true && ((r_213 == r_217) == true)) (.bool (r_226 == r_232)) := hT.vals 10 rfl 54 rfl
        have hAp := hAp.add e239
        exact opk_val hAp rfl (r_pick_and (g := (true && ((r_213 == r_217) == true))) (hAp.get rfl) (hAp.get rfl) (fun he => g_mkt rfl he)) fun _ _ e => ⟨_, e, Chg.refl _ _, fun _ => Eq.refl _⟩
      · intro a w hT
        have hAp := hT.ag hA203 [] trivial (by kernel_rfl)
        have e240 : a.tmps.getD 55 undef = .bool ((r_213 == r_217) && (r_226 == r_232)) := hT.vals 11 rfl 55 rfl
        have hAp := hAp.add e240
        exact opk_val hAp rfl (r_move (hAp.get rfl)) fun _ _ e => ⟨_, e, Chg.refl _ _, fun _ => Eq.refl _⟩
      · intro a w hT
        have hAp := hT.ag hA203 [(7, .pointer (some (⟨B_98, 0, none⟩ : Addr)))] ⟨rfl, trivial⟩ (by kernel_rfl)
        have e241 : a.tmps.getD 56 undef = .bool ((r_213 == r_217) && (r_226 == r_232)) := hT.vals 12 rfl 56 rfl
        have hAp := hAp.add e241
        exact opk_gval hAp rfl rfl (g := true) (e := ((r_213 == r_217) && (r_226 == r_232))) rfl (fun hg => r_loadN (cs := [.int .i64 r_80_Kind, .string (Bs r_80_Name), .string (Bs r_80_Text), Sl.v r_80_Attrs, Sl.v r_80_Kids]) Try.underlying26 rfl ti_26 (hAp.get rfl) ((hB208.ext hT.chg).part 0 _ rfl)) fun _ _ e => ⟨_, e, Chg.refl _ _, fun _ => Eq.refl _⟩
      · intro a w hT
        have hAp := hT.ag hA203 [] trivial (by kernel_rfl)
        have e242 : a.tmps.getD 56 undef = .bool ((r_213 == r_217) && (r_226 == r_232)) := hT.vals 12 rfl 56 rfl
        have hAp := hAp.add e242
        have e243 : a.tmps.getD 57 undef = cV (true && (((r_213 == r_217) && (r_226 == r_232)) == true)) (.agg #[.int .i64 r_80_Kind, .string (Bs r_80_Name), .string (Bs r_80_Text), Sl.v r_80_Attrs, Sl.v r_80_Kids]) := hT.vals 13 rfl 57 rfl
        have hAp := hAp.add e243
        exact opk_gcall hAp rfl rfl (g := true) (e := ((r_213 == r_217) && (r_226 == r_232))) rfl (fun hg => r_call (args := #[.agg #[.int .i64 r_80_Kind, .string (Bs r_80_Name), .string (Bs r_80_Text), Sl.v r_80_Attrs, Sl.v r_80_Kids]]) Try.func21 (by decide) rfl (map_arr (ml_cons (cv_get (hAp.get rfl) hg) ml_nil)) rfl) (fun hg => hc245 ⟨(b_and_t (g_t hg)).1, (b_and_t (g_t hg)).2⟩ w hT.chg) fun _ _ _ e hE => ⟨_, e, hE, fun _ => Eq.refl _⟩
      · intro a w hT
        have hAp := hT.ag hA203 [(3, .pointer (some (⟨B_4, 0, none⟩ : Addr)))] ⟨rfl, trivial⟩ (by kernel_rfl)
        have e247 : a.tmps.getD 56 undef = .bool ((r_213 == r_217) && (r_226 == r_232)) := hT.vals 12 rfl 56 rfl
        have hAp := hAp.add e247
        exact opk_gval hAp rfl rfl (g := true) (e := ((r_213 == r_217) && (r_226 == r_232))) rfl (fun hg => r_loadN (cs := [.int .i64 a_1_Kind, .string (Bs a_1_Name), .string (Bs a_1_Text), Sl.v a_1_Attrs, Sl.v a_1_Kids]) Try.underlying26 rfl ti_26 (hAp.get rfl) ((hB206.ext hT.chg).part 0 _ rfl)) fun _ _ e => ⟨_, e, Chg.refl _ _, fun _ => Eq.refl _⟩
      · intro a w hT
        have hAp := hT.ag hA203 [] trivial (by kernel_rfl)
        have e248 : a.tmps.getD 56 undef = .bool ((r_213 == r_217) && (r_226 == r_232)) := hT.vals 12 rfl 56 rfl
        have hAp := hAp.add e248
        have e249 : a.tmps.getD 59 undef = cV (true && (((r_213 == r_217) && (r_226 == r_232)) == true)) (.agg #[.int .i64 a_1_Kind, .string (Bs a_1_Name), .string (Bs a_1_Text), Sl.v a_1_Attrs, Sl.v a_1_Kids]) := hT.vals 15 rfl 59 rfl
        have hAp := hAp.add e249
        exact opk_gcall hAp rfl rfl (g := true) (e := ((r_213 == r_217) && (r_226 == r_232))) rfl (fun hg => r_call (args := #[.agg #[.int .i64 a_1_Kind, .string (Bs a_1_Name), .string (Bs a_1_Text), Sl.v a_1_Attrs, Sl.v a_1_Kids]]) Try.func29 (by decide) rfl (map_arr (ml_cons (cv_get (hAp.get rfl) hg) ml_nil)) rfl) (fun hg => hc251 ⟨(b_and_t (g_t hg)).1, (b_and_t (g_t hg)).2⟩ w hT.chg) fun _ _ _ e hE => ⟨_, e, hE, fun _ => Eq.refl _⟩
      · intro a w hT
        have hAp := hT.ag hA203 [] trivial (by kernel_rfl)
        have e253 : a.tmps.getD 56 undef = .bool ((r_213 == r_217) && (r_226 == r_232)) := hT.vals 12 rfl 56 rfl
        have hAp := hAp.add e253
        have e254 : a.tmps.getD 58 undef = cV (true && (((r_213 == r_217) && (r_226 == r_232)) == true)) (.int .i64 r_244) := hT.vals 14 rfl 58 rfl
        have hAp := hAp.add e254
        have e255 : a.tmps.getD 60 undef = cV (true && (((r_213 == r_217) && (r_226 == r_232)) == true)) (.int .i64 r_250) := hT.vals 16 rfl 60 rfl
        have hAp := hAp.add e255
        exact opk_gval hAp rfl rfl (g := true) (e := ((r_213 == r_217) && (r_226 == r_232))) rfl (fun hg => r_eql (cv_get (hAp.get rfl) hg) (cv_get (hAp.get rfl) hg)) fun _ _ e => ⟨_, e, Chg.refl _ _, fun _ => Eq.refl _⟩
      · intro a w hT
        have hAp := hT.ag hA203 [] trivial (by kernel_rfl)
        have e256 : a.tmps.getD 56 undef = .bool ((r_213 == r_217) && (r_226 == r_232)) := hT.vals 12 rfl 56 rfl
        have hAp := hAp.add e256
        have e257 : a.tmps.getD 61 undef = cV (true && (((r_213 == r_217) && (r_226 == r_232)) == true)) (.bool (decide (r_244 = r_250))) := hT.vals 17 rfl 61 rfl
        have hAp := hAp.add e257
        exact opk_val hAp rfl (r_pick_and (g := (true && (((r_213 == r_217) && (r_226 == r_232)) == true))) (hAp.get rfl) (hAp.get rfl) (fun he => g_mkt rfl he)) fun _ _ e => ⟨_, e, Chg.refl _ _, fun _ => Eq.refl _⟩
      · intro a w hT
        have hAp := hT.ag hA203 [] trivial (by kernel_rfl)
        have e258 : a.tmps.getD 62 undef = .bool (((r_213 == r_217) && (r_226 == r_232)) && (decide (r_244 = r_250))) := hT.vals 18 rfl 62 rfl
        have hAp := hAp.add e258
        exact opk_val hAp rfl (r_move (hAp.get rfl)) fun _ _ e => ⟨_, e, Chg.refl _ _, fun _ => Eq.refl _⟩
      · intro a w hT
        have hAp := hT.ag hA203 [(7, .pointer (some (⟨B_98, 0, none⟩ : Addr)))] ⟨rfl, trivial⟩ (by kernel_rfl)
        have e259 : a.tmps.getD 63 undef = .bool (((r_213 == r_217) && (r_226 == r_232)) && (decide (r_244 = r_250))) := hT.vals 19 rfl 63 rfl
        have hAp := hAp.add e259
        exact opk_gval hAp rfl rfl (g := true) (e := (((r_213 == r_217) && (r_226 == r_232)) && (decide (r_244 = r_250)))) rfl (fun hg => r_loadN (cs := [.int .i64 r_80_Kind, .string (Bs r_80_Name), .string (Bs r_80_Text), Sl.v r_80_Attrs, Sl.v r_80_Kids]) Try.underlying26 rfl ti_26 (hAp.get rfl) ((hB208.ext hT.chg).part 0 _ rfl)) fun _ _ e => ⟨_, e, Chg.refl _ _, fun _ => Eq.refl _⟩
      · intro a w hT
        have hAp := hT.ag hA203 [] trivial (by kernel_rfl)
        have e260 : a.tmps.getD 63 undef = .bool (((r_213 == r_217) && (r_226 == r_232)) && (decide (r_244 = r_250))) := hT.vals 19 rfl 63 rfl
        have hAp := hAp.add e260
        have e261 : a.tmps.getD 64 undef = cV (true && ((((r_213 == r_217) && (r_226 == r_232)) && (decide (r_244 = r_250))) == true)) (.agg #[.int .i64 r_80_Kind, .string (Bs r_80_Name), .string (Bs r_80_Text), Sl.v r_80_Attrs, Sl.v r_80_Kids]) := hT.vals 20 rfl 64 rfl
        have hAp := hAp.add e261
        exact opk_gcall hAp rfl rfl (g := true) (e := (((r_213 == r_217) && (r_226 == r_232)) && (decide (r_244 = r_250)))) rfl (fun hg => r_call (args := #[.agg #[.int .i64 r_80_Kind, .string (Bs r_80_Name), .string (Bs r_80_Text), Sl.v r_80_Attrs, Sl.v r_80_Kids]]) Try.func18 (by decide) rfl (map_arr (ml_cons (cv_get (hAp.get rfl) hg) ml_nil)) rfl) (fun hg => hc263 ⟨⟨(b_and_t (b_and_t (g_t hg)).1).1, (b_and_t (b_and_t (g_t hg)).1).2⟩, (of_decide_eq_true (b_and_t (g_t hg)).2)⟩ w hT.chg) fun _ _ _ e hE => ⟨_, e, hE, fun _ => Eq.refl _⟩
      · intro a w hT
        have hAp := hT.ag hA203 [(3, .pointer (some (⟨B_4, 0, none⟩ : Addr)))] ⟨rfl, trivial⟩ (by kernel_rfl)
        have e265 : a.tmps.getD 63 undef = .bool (((r_213 == r_217) && (r_226 == r_232)) && (decide (r_244 = r_250))) := hT.vals 19 rfl 63 rfl
        have hAp := hAp.add e265
        exact opk_gval hAp rfl rfl (g := true) (e := (((r_213 == r_217) && (r_226 == r_232)) && (decide (r_244 = r_250)))) rfl (fun hg => r_loadN (cs := [.int .i64 a_1_Kind, .string (Bs a_1_Name), .string (Bs a_1_Text), Sl.v a_1_Attrs, Sl.v a_1_Kids]) Try.underlying26 rfl ti_26 (hAp.get rfl) ((hB206.ext hT.chg).part 0 _ rfl)) fun _ _ e => ⟨_, e, Chg.refl _ _, fun _ => Eq.refl _⟩
      · intro a w hT
        have hAp := hT.ag hA203 [] trivial (by kernel_rfl)
        have e266 : a.tmps.getD 63 undef = .bool (((r_213 == r_217) && (r_226 == r_232)) && (decide (r_244 = r_250))) := hT.vals 19 rfl 63 rfl
        have hAp := hAp.add e266
        have e267 : a.tmps.getD 66 undef = cV (true && ((((r_213 == r_217) && (r_226 == r_232)) && (decide (r_244 = r_250))) == true)) (.agg #[.int .i64 a_1_Kind, .string (Bs a_1_Name), .string (Bs a_1_Text), Sl.v a_1_Attrs, Sl.v a_1_Kids]) := hT.vals 22 rfl 66 rfl
        have hAp := hAp.add e267
        exact opk_gcall hAp rfl rfl (g := true) (e := (((r_213 == r_217) && (r_226 == r_232)) && (decide (r_244 = r_250)))) rfl (fun hg => r_call (args := #[.agg #[.int .i64 a_1_Kind, .string (Bs a_1_Name), .string (Bs a_1_Text), Sl.v a_1_Attrs, Sl.v a_1_Kids]]) Try.func30 (by decide) rfl (map_arr (ml_cons (cv_get (hAp.get rfl) hg) ml_nil)) rfl) (fun hg => hc269 ⟨⟨(b_and_t (b_and_t (g_t hg)).1).1, (b_and_t (b_and_t (g_t hg)).1).2⟩, (of_decide_eq_true (b_and_t (g_t hg)).2)⟩ w hT.chg) fun _ _ _ e hE => ⟨_, e, hE, fun _ => Eq.refl _⟩
      · intro a w hT
        have hAp := hT.ag hA203 [] trivial (by kernel_rfl)
        have e271 : a.tmps.getD 63 undef = .bool (((r_213 == r_217) && (r_226 == r_232)) && (decide (r_244 = r_250))) := hT.vals 19 rfl 63 rfl
        have hAp := hAp.add e271
        have e272 : a.tmps.getD 65 undef = cV (true && ((((r_213 == r_217) && (r_226 == r_232)) && (decide (r_244 = r_250))) == true)) (.int .i64 r_262) := hT.vals 21 rfl 65 rfl
        have hAp := hAp.add e272
        have e273 : a.tmps.getD 67 undef = cV (true && ((((r_213 == r_217) && (r_226 == r_232)) && (decide (r_244 = r_250))) == true)) (.int .i64 r_268) := hT.vals 23 rfl 67 rfl
        have hAp := hAp.add e273
        exact opk_gval hAp rfl rfl (g := true) (e := (((r_213 == r_217) && (r_226 == r_232)) && (decide (r_244 = r_250)))) rfl (fun hg => r_eql (cv_get (hAp.get rfl) hg) (cv_get (hAp.get rfl) hg)) fun _ _ e => ⟨_, e, Chg.refl _ _, fun _ => Eq.refl _⟩
      · intro a w hT
        have hAp := hT.ag hA203 [] trivial (by kernel_rfl)
        have e274 : a.tmps.getD 63 undef = .bool (((r_213 == r_217) && (r_226 == r_232)) && (decide (r_244 = r_250))) := hT.vals 19 rfl 63 rfl
        have hAp := hAp.add e274
        have e275 : a.tmps.getD 68 undef = cV (true && ((((r_213 == r_217) && (r_226 == r_232)) && (decide (r_244 = r_250))) == true)) (.bool (decide (r_262 = r_268))) := hT.vals 24 rfl 68 rfl
        have hAp := hAp.add e275
        exact opk_val hAp rfl (r_pick_and (g := (true && ((((r_213 == r_217) && (r_226 == r_232)) && (decide (r_244 = r_250))) == true))) (hAp.get rfl) (hAp.get rfl) (fun he => g_mkt rfl he)) fun _ _ e => ⟨_, e, Chg.refl _ _, fun _ => Eq.refl _⟩
      · intro a w hT
        have hAp := hT.ag hA203 [] trivial (by kernel_rfl)
        have e276 : a.tmps.getD 69 undef = .bool ((((r_213 == r_217) && (r_226 == r_232)) && (decide (r_244 = r_250))) && (decide (r_262 = r_268))) := hT.vals 25 rfl 69 rfl
        have hAp := hAp.add e276
        exact opk_val hAp rfl (r_move (hAp.get rfl)) fun _ _ e => ⟨_, e, Chg.refl _ _, fun _ => Eq.refl _⟩
      · intro a w hT
        have hAp := hT.ag hA203 [(7, .pointer (some (⟨B_98, 0, none⟩ : Addr)))] ⟨rfl, trivial⟩ (by kernel_rfl)
        have e277 : a.tmps.getD 70 undef = .bool ((((r_213 == r_217) && (r_226 == r_232)) && (decide (r_244 = r_250))) && (decide (r_262 = r_268))) := hT.vals 26 rfl 70 rfl
        have hAp := hAp.add e277
        exact opk_gval hAp rfl rfl (g := true) (e := ((((r_213 == r_217) && (r_226 == r_232)) && (decide (r_244 = r_250))) && (decide (r_262 = r_268)))) rfl (fun hg => r_loadN (cs := [.int .i64 r_80_Kind, .string (Bs r_80_Name), .string (Bs r_80_Text), Sl.v r_80_Attrs, Sl.v r_80_Kids]) Try.underlying26 rfl ti_26 (hAp.get rfl) ((hB208.ext hT.chg).part 0 _ rfl)) fun _ _ e => ⟨_, e, Chg.refl _ _, fun _ => Eq.refl _⟩
      · intro a w hT
        have hAp := hT.ag hA203 [] trivial (by kernel_rfl)
        have e278 : a.tmps.getD 70 undef = .bool ((((r_213 == r_217) && (r_226 == r_232)) && (decide (r_244 = r_250))) && (decide (r_262 = r_268))) := hT.vals 26 rfl 70 rfl
        have hAp := hAp.add e278
        have e279 : a.tmps.getD 71 undef = cV (true && (((((r_213 == r_217) && (r_226 == r_232)) && (decide (r_244 = r_250))) && (decide (r_262 = r_268))) == true)) (.agg #[.int .i64 r_80_Kind, .string (Bs r_80_Name), .string (Bs r_80_Text), Sl.v r_80_Attrs, Sl.v r_80_Kids]) := hT.vals 27 rfl 71 rfl
        have hAp := hAp.add e279
        exact opk_gcall hAp rfl rfl (g := true) (e := ((((r_213 == r_217) && (r_226 == r_232)) && (decide (r_244 = r_250))) && (decide (r_262 = r_268)))) rfl (fun hg => r_call (args := #[.agg #[.int .i64 r_80_Kind, .string (Bs r_80_Name), .string (Bs r_80_Text), Sl.v r_80_Attrs, Sl.v r_80_Kids]]) Try.func22 (by decide) rfl (map_arr (ml_cons (cv_get (hAp.get rfl) hg) ml_nil)) rfl) (fun hg => hc281 ⟨⟨⟨(b_and_t (b_and_t (b_and_t (g_t hg)).1).1).1, (b_and_t (b_and_t (b_and_t (g_t hg)).1).1).2⟩, (of_decide_eq_true (b_and_t (b_and_t (g_t hg)).1).2)⟩, (of_decide_eq_true (b_and_t (g_t hg)).2)⟩ w hT.chg) fun _ _ _ e hE => ⟨_, e, hE, fun _ => Eq.refl _⟩
      · intro a w hT
        have hAp := hT.ag hA203 [(3, .pointer (some (⟨B_4, 0, none⟩ : Addr)))] ⟨rfl, trivial⟩ (by kernel_rfl)
        have e283 : a.tmps.getD 70 undef = .bool ((((r_213 == r_217) && (r_226 == r_232)) && (decide (r_244 = r_250))) && (decide (r_262 = r_268))) := hT.vals 26 rfl 70 rfl
        have hAp := hAp.add e283
        exact opk_gval hAp rfl rfl (g := true) (e := ((((r_213 == r_217) && (r_226 == r_232)) && (decide (r_244 = r_250))) && (decide (r_262 = r_268)))) rfl (fun hg => r_loadN (cs := [.int .i64 a_1_Kind, .string (Bs a_1_Name), .string (Bs a_1_Text), Sl.v a_1_Attrs, Sl.v a_1_Kids]) Try.underlying26 rfl ti_26 (hAp.get rfl) ((hB206.ext hT.chg).part 0 _ rfl)) fun _ _ e => ⟨_, e, Chg.refl _ _, fun _ => Eq.refl _⟩
      · intro a w hT
        have hAp := hT.ag hA203 [] trivial (by kernel_rfl)
        have e284 : a.tmps.getD 70 undef = .bool ((((r_213 == r_217) && (r_226 == r_232)) && (decide (r_244 = r_250))) && (decide (r_262 = r_268))) := hT.vals 26 rfl 70 rfl
        have hAp := hAp.add e284
        have e285 : a.tmps.getD 73 undef = cV (true && (((((r_213 == r_217) && (r_226 == r_232)) && (decide (r_244 = r_250))) && (decide (r_262 = r_268))) == true)) (.agg #[.int .i64 a_1_Kind, .string (Bs a_1_Name), .string (Bs a_1_Text), Sl.v a_1_Attrs, Sl.v a_1_Kids]) := hT.vals 29 rfl 73 rfl
        have hAp := hAp.add e285
        exact opk_gcall hAp rfl rfl (g := true) (e := ((((r_213 == r_217) && (r_226 == r_232)) && (decide (r_244 = r_250))) && (decide (r_262 = r_268)))) rfl (fun hg => r_call (args := #[.agg #[.int .i64 a_1_Kind, .string (Bs a_1_Name), .string (Bs a_1_Text), Sl.v a_1_Attrs, Sl.v a_1_Kids]]) Try.func31 (by decide) rfl (map_arr (ml_cons (cv_get (hAp.get rfl) hg) ml_nil)) rfl) (fun hg => hc287 ⟨⟨⟨(b_and_t (b_and_t (b_and_t (g_t hg)).1).1).1, (b_and_t (b_and_t (b_and_t (g_t hg)).1).1).2⟩, (of_decide_eq_true (b_and_t (b_and_t (g_t hg)).1).2)⟩, (of_decide_eq_true (b_and_t (g_t hg)).2)⟩ w hT.chg) fun _ _ _ e hE => ⟨_, e, hE, fun _ => Eq.refl _⟩
      · intro a w hT
        have hAp := hT.ag hA203 [] trivial (by kernel_rfl)
        have e289 : a.tmps.getD 70 undef = .bool ((((r_213 == r_217) && (r_226 == r_232)) && (decide (r_244 = r_250))) && (decide (r_262 = r_268))) := hT.vals 26 rfl 70 rfl
        have hAp := hAp.add e289
        have e290 : a.tmps.getD 72 undef = cV (true && (((((r_213 == r_217) && (r_226 == r_232)) && (decide (r_244 = r_250))) && (decide (r_262 = r_268))) == true)) (.int .i64 r_280) := hT.vals 28 rfl 72 rfl
        have hAp := hAp.add e290
        have e291 : a.tmps.getD 74 undef = cV (true && (((((r_213 == r_217) && (r_226 == r_232)) && (decide (r_244 = r_250))) && (decide (r_262 = r_268))) == true)) (.int .i64 r_286) := hT.vals 30 rfl 74 rfl
        have hAp := hAp.add e291
        exact opk_gval hAp rfl rfl (g := true) (e := ((((r_213 == r_217) && (r_226 == r_232)) && (decide (r_244 = r_250))) && (decide (r_262 = r_268)))) rfl (fun hg => r_eql (cv_get (hAp.get rfl) hg) (cv_get (hAp.get rfl) hg)) fun _ _ e => ⟨_, e, Chg.refl _ _, fun _ => Eq.refl _⟩
      · intro a w hT
        have hAp := hT.ag hA203 [] trivial (by kernel_rfl)
        have e292 : a.tmps.getD 70 undef = .bool ((((r_213 == r_217) && (r_226 == r_232)) && (decide (r_244 = r_250))) && (decide (r_262 = r_268))) := hT.vals 26 rfl 70 rfl
        have hAp := hAp.add e292
        have e293 : a.tmps.getD 75 undef = cV (true && (((((r_213 == r_217) && (r_226 == r_232)) && (decide (r_244 = r_250))) && (decide (r_262 = r_268))) == true)) (.bool (decide (r_280 = r_286))) := hT.vals 31 rfl 75 rfl
        have hAp := hAp.add e293
        exact opk_val hAp rfl (r_pick_and (g := (true && (((((r_213 == r_217) && (r_226 == r_232)) && (decide (r_244 = r_250))) && (decide (r_262 = r_268))) == true))) (hAp.get rfl) (hAp.get rfl) (fun he => g_mkt rfl he)) fun _ _ e => ⟨_, e, Chg.refl _ _, fun _ => Eq.refl _⟩
      · intro a w hT
        have hAp := hT.ag hA203 [] trivial (by kernel_rfl)
        have e294 : a.tmps.getD 76 undef = .bool (((((r_213 == r_217) && (r_226 == r_232)) && (decide (r_244 = r_250))) && (decide (r_262 = r_268))) && (decide (r_280 = r_286))) := hT.vals 32 rfl 76 rfl
        have hAp := hAp.add e294
        exact opk_val hAp rfl (r_move (hAp.get rfl)) fun _ _ e => ⟨_, e, Chg.refl _ _, fun _ => Eq.refl _⟩
      · intro a w hT
        have hAp := hT.ag hA203 [(7, .pointer (some (⟨B_98, 0, none⟩ : Addr)))] ⟨rfl, trivial⟩ (by kernel_rfl)
        have e295 : a.tmps.getD 77 undef = .bool (((((r_213 == r_217) && (r_226 == r_232)) && (decide (r_244 = r_250))) && (decide (r_262 = r_268))) && (decide (r_280 = r_286))) := hT.vals 33 rfl 77 rfl
        have hAp := hAp.add e295
        exact opk_gval hAp rfl rfl (g := true) (e := (((((r_213 == r_217) && (r_226 == r_232)) && (decide (r_244 = r_250))) && (decide (r_262 = r_268))) && (decide (r_280 = r_286)))) rfl (fun hg => r_loadN (cs := [.int .i64 r_80_Kind, .string (Bs r_80_Name), .string (Bs r_80_Text), Sl.v r_80_Attrs, Sl.v r_80_Kids]) Try.underlying26 rfl ti_26 (hAp.get rfl) ((hB208.ext hT.chg).part 0 _ rfl)) fun _ _ e => ⟨_, e, Chg.refl _ _, fun _ => Eq.refl _⟩
      · intro a w hT
        have hAp := hT.ag hA203 [(8, .pointer (some (⟨B_103, 0, none⟩ : Addr)))] ⟨rfl, trivial⟩ (by kernel_rfl)
        have e296 : a.tmps.getD 77 undef = .bool (((((r_213 == r_217) && (r_226 == r_232)) && (decide (r_244 = r_250))) && (decide (r_262 = r_268))) && (decide (r_280 = r_286))) := hT.vals 33 rfl 77 rfl
        have hAp := hAp.add e296
        exact opk_gval hAp rfl rfl (g := true) (e := (((((r_213 == r_217) && (r_226 == r_232)) && (decide (r_244 = r_250))) && (decide (r_262 = r_268))) && (decide (r_280 = r_286)))) rfl (fun hg => r_loadN (cs := [.int .i64 r_90_Kind, .string (Bs r_90_Name), .string (Bs r_90_Text), Sl.v r_90_Attrs, Sl.v r_90_Kids]) Try.underlying26 rfl ti_26 (hAp.get rfl) ((hB209.ext hT.chg).part 0 _ rfl)) fun _ _ e => ⟨_, e, Chg.refl _ _, fun _ => Eq.refl _⟩
      · intro a w hT
        have hAp := hT.ag hA203 [] trivial (by kernel_rfl)
        have e297 : a.tmps.getD 77 undef = .bool (((((r_213 == r_217) && (r_226 == r_232)) && (decide (r_244 = r_250))) && (decide (r_262 = r_268))) && (decide (r_280 = r_286))) := hT.vals 33 rfl 77 rfl
        have hAp := hAp.add e297
        have e298 : a.tmps.getD 78 undef = cV (true && ((((((r_213 == r_217) && (r_226 == r_232)) && (decide (r_244 = r_250))) && (decide (r_262 = r_268))) && (decide (r_280 = r_286))) == true)) (.agg #[.int .i64 r_80_Kind, .string (Bs r_80_Name), .string (Bs r_80_Text), Sl.v r_80_Attrs, Sl.v r_80_Kids]) := hT.vals 34 rfl 78 rfl
        have hAp := hAp.add e298
        have e299 : a.tmps.getD 79 undef = cV (true && ((((((r_213 == r_217) && (r_226 == r_232)) && (decide (r_244 = r_250))) && (decide (r_262 = r_268))) && (decide (r_280 = r_286))) == true)) (.agg #[.int .i64 r_90_Kind, .string (Bs r_90_Name), .string (Bs r_90_Text), Sl.v r_90_Attrs, Sl.v r_90_Kids]) := hT.vals 35 rfl 79 rfl
        have hAp := hAp.add e299
        exact opk_gcall hAp rfl rfl (g := true) (e := (((((r_213 == r_217) && (r_226 == r_232)) && (decide (r_244 = r_250))) && (decide (r_262 = r_268))) && (decide (r_280 = r_286)))) rfl (fun hg => r_call (args := #[.agg #[.int .i64 r_80_Kind, .string (Bs r_80_Name), .string (Bs r_80_Text), Sl.v r_80_Attrs, Sl.v r_80_Kids], .agg #[.int .i64 r_90_Kind, .string (Bs r_90_Name), .string (Bs r_90_Text), Sl.v r_90_Attrs, Sl.v r_90_Kids]]) Try.func25 (by decide) rfl (map_arr (ml_cons (cv_get (hAp.get rfl) hg) (ml_cons (cv_get (hAp.get rfl) hg) ml_nil))) rfl) (fun hg => hc301 ⟨⟨⟨⟨(b_and_t (b_and_t (b_and_t (b_and_t (g_t hg)).1).1).1).1, (b_and_t (b_and_t (b_and_t (b_and_t (g_t hg)).1).1).1).2⟩, (of_decide_eq_true (b_and_t (b_and_t (b_and_t (g_t hg)).1).1).2)⟩, (of_decide_eq_true (b_and_t (b_and_t (g_t hg)).1).2)⟩, (of_decide_eq_true (b_and_t (g_t hg)).2)⟩ w hT.chg) fun _ _ _ e hE => ⟨_, e, hE, fun _ => Eq.refl _⟩
      · intro a w hT
        have hAp := hT.ag hA203 [(3, .pointer (some (⟨B_4, 0, none⟩ : Addr)))] ⟨rfl, trivial⟩ (by kernel_rfl)
        have e303 : a.tmps.getD 77 undef = .bool (((((r_213 == r_217) && (r_226 == r_232)) && (decide (r_244 = r_250))) && (decide (r_262 = r_268))) && (decide (r_280 = r_286))) := hT.vals 33 rfl 77 rfl
        have hAp := hAp.add e303
        exact opk_gval hAp rfl rfl (g := true) (e := (((((r_213 == r_217) && (r_226 == r_232)) && (decide (r_244 = r_250))) && (decide (r_262 = r_268))) && (decide (r_280 = r_286)))) rfl (fun hg => r_loadN (cs := [.int .i64 a_1_Kind, .string (Bs a_1_Name), .string (Bs a_1_Text), Sl.v a_1_Attrs, Sl.v a_1_Kids]) Try.underlying26 rfl ti_26 (hAp.get rfl) ((hB206.ext hT.chg).part 0 _ rfl)) fun _ _ e => ⟨_, e, Chg.refl _ _, fun _ => Eq.refl _⟩
      · intro a w hT
        have hAp := hT.ag hA203 [(4, .pointer (some (⟨B_12, 0, none⟩ : Addr)))] ⟨rfl, trivial⟩ (by kernel_rfl)
        have e304 : a.tmps.getD 77 undef = .bool (((((r_213 == r_217) && (r_226 == r_232)) && (decide (r_244 = r_250))) && (decide (r_262 = r_268))) && (decide (r_280 = r_286))) := hT.vals 33 rfl 77 rfl
        have hAp := hAp.add e304
        exact opk_gval hAp rfl rfl (g := true) (e := (((((r_213 == r_217) && (r_226 == r_232)) && (decide (r_244 = r_250))) && (decide (r_262 = r_268))) && (decide (r_280 = r_286)))) rfl (fun hg => r_loadN (cs := [.int .i64 b_2_Kind, .string (Bs b_2_Name), .string (Bs b_2_Text), Sl.v b_2_Attrs, Sl.v b_2_Kids]) Try.underlying26 rfl ti_26 (hAp.get rfl) ((hB207.ext hT.chg).part 0 _ rfl)) fun _ _ e => ⟨_, e, Chg.refl _ _, fun _ => Eq.refl _⟩
      · intro a w hT
        have hAp := hT.ag hA203 [] trivial (by kernel_rfl)
        have e305 : a.tmps.getD 77 undef = .bool (((((r_213 == r_217) && (r_226 == r_232)) && (decide (r_244 = r_250))) && (decide (r_262 = r_268))) && (decide (r_280 = r_286))) := hT.vals 33 rfl 77 rfl
        have hAp := hAp.add e305
        have e306 : a.tmps.getD 81 undef = cV (true && ((((((r_213 == r_217) && (r_226 == r_232)) && (decide (r_244 = r_250))) && (decide (r_262 = r_268))) && (decide (r_280 = r_286))) == true)) (.agg #[.int .i64 a_1_Kind, .string (Bs a_1_Name), .string (Bs a_1_Text), Sl.v a_1_Attrs, Sl.v a_1_Kids]) := hT.vals 37 rfl 81 rfl
        have hAp := hAp.add e306
        have e307 : a.tmps.getD 82 undef = cV (true && ((((((r_213 == r_217) && (r_226 == r_232)) && (decide (r_244 = r_250))) && (decide (r_262 = r_268))) && (decide (r_280 = r_286))) == true)) (.agg #[.int .i64 b_2_Kind, .string (Bs b_2_Name), .string (Bs b_2_Text), Sl.v b_2_Attrs, Sl.v b_2_Kids]) := hT.vals 38 rfl 82 rfl
        have hAp := hAp.add e307
        exact opk_gcall hAp rfl rfl (g := true) (e := (((((r_213 == r_217) && (r_226 == r_232)) && (decide (r_244 = r_250))) && (decide (r_262 = r_268))) && (decide (r_280 = r_286)))) rfl (fun hg => r_call (args := #[.agg #[.int .i64 a_1_Kind, .string (Bs a_1_Name), .string (Bs a_1_Text), Sl.v a_1_Attrs, Sl.v a_1_Kids], .agg #[.int .i64 b_2_Kind, .string (Bs b_2_Name), .string (Bs b_2_Text), Sl.v b_2_Attrs, Sl.v b_2_Kids]]) Try.func32 (by decide) rfl (map_arr (ml_cons (cv_get (hAp.get rfl) hg) (ml_cons (cv_get (hAp.get rfl) hg) ml_nil))) rfl) (fun hg => hc309 ⟨⟨⟨⟨(b_and_t (b_and_t (b_and_t (b_and_t (g_t hg)).1).1).1).1, (b_and_t (b_and_t (b_and_t (b_and_t (g_t hg)).1).1).1).2⟩, (of_decide_eq_true (b_and_t (b_and_t (b_and_t (g_t hg)).1).1).2)⟩, (of_decide_eq_true (b_and_t (b_and_t (g_t hg)).1).2)⟩, (of_decide_eq_true (b_and_t (g_t hg)).2)⟩ w hT.chg) fun _ _ _ e hE => ⟨_, e, hE, fun _ => Eq.refl _⟩
      · intro a w hT
        have hAp := hT.ag hA203 [] trivial (by kernel_rfl)
        have e311 : a.tmps.getD 77 undef = .bool (((((r_213 == r_217) && (r_226 == r_232)) && (decide (r_244 = r_250))) && (decide (r_262 = r_268))) && (decide (r_280 = r_286))) := hT.vals 33 rfl 77 rfl
        have hAp := hAp.add e311
        have e312 : a.tmps.getD 80 undef = cV (true && ((((((r_213 == r_217) && (r_226 == r_232)) && (decide (r_244 = r_250))) && (decide (r_262 = r_268))) && (decide (r_280 = r_286))) == true)) (.bool r_300) := hT.vals 36 rfl 80 rfl
        have hAp := hAp.add e312
        have e313 : a.tmps.getD 83 undef = cV (true && ((((((r_213 == r_217) && (r_226 == r_232)) && (decide (r_244 = r_250))) && (decide (r_262 = r_268))) && (decide (r_280 = r_286))) == true)) (.bool r_308) := hT.vals 39 rfl 83 rfl
        have hAp := hAp.add e313
        exact opk_gval hAp rfl rfl (g := true) (e := (((((r_213 == r_217) && (r_226 == r_232)) && (decide (r_244 = r_250))) && (decide (r_262 = r_268))) && (decide (r_280 = r_286)))) rfl (fun hg => r_beql (cv_get (hAp.get rfl) hg) (cv_get (hAp.get rfl) hg) Try.underlying4) fun _ _ e => ⟨_, e, Chg.refl _ _, fun _ => Eq.refl _⟩
      · intro a w hT
        have hAp := hT.ag hA203 [] trivial (by kernel_rfl)
        have e314 : a.tmps.getD 77 undef = .bool (((((r_213 == r_217) && (r_226 == r_232)) && (decide (r_244 = r_250))) && (decide (r_262 = r_268))) && (decide (r_280 = r_286))) := hT.vals 33 rfl 77 rfl
        have hAp := hAp.add e314
        have e315 : a.tmps.getD 84 undef = cV (true && ((((((r_213 == r_217) && (r_226 == r_232)) && (decide (r_244 = r_250))) && (decide (r_262 = r_268))) && (decide (r_280 = r_286))) == true)) (.bool (r_300 == r_308)) := hT.vals 40 rfl 84 rfl
        have hAp := hAp.add e315
        exact opk_val hAp rfl (r_pick_and (g := (true && ((((((r_213 == r_217) && (r_226 == r_232)) && (decide (r_244 = r_250))) && (decide (r_262 = r_268))) && (decide (r_280 = r_286))) == true))) (hAp.get rfl) (hAp.get rfl) (fun he => g_mkt rfl he)) fun _ _ e => ⟨_, e, Chg.refl _ _, fun _ => Eq.refl _⟩
      · intro a w hT
        have hAp := hT.ag hA203 [] trivial (by kernel_rfl)
        have e316 : a.tmps.getD 85 undef = .bool ((((((r_213 == r_217) && (r_226 == r_232)) && (decide (r_244 = r_250))) && (decide (r_262 = r_268))) && (decide (r_280 = r_286))) && (r_300 == r_308)) := hT.vals 41 rfl 85 rfl
        have hAp := hAp.add e316
        exact opk_val hAp rfl (r_move (hAp.get rfl)) fun _ _ e => ⟨_, e, Chg.refl _ _, fun _ => Eq.refl _⟩
      · intro a w hT
        have hAp := hT.ag hA203 [(7, .pointer (some (⟨B_98, 0, none⟩ : Addr)))] ⟨rfl, trivial⟩ (by kernel_rfl)
        have e317 : a.tmps.getD 86 undef = .bool ((((((r_213 == r_217) && (r_226 == r_232)) && (decide (r_244 = r_250))) && (decide (r_262 = r_268))) && (decide (r_280 = r_286))) && (r_300 == r_308)) := hT.vals 42 rfl 86 rfl
        have hAp := hAp.add e317
        exact opk_gval hAp rfl rfl (g := true) (e := ((((((r_213 == r_217) && (r_226 == r_232)) && (decide (r_244 = r_250))) && (decide (r_262 = r_268))) && (decide (r_280 = r_286))) && (r_300 == r_308))) rfl (fun hg => r_loadN (cs := [.int .i64 r_80_Kind, .string (Bs r_80_Name), .string (Bs r_80_Text), Sl.v r_80_Attrs, Sl.v r_80_Kids]) Try.underlying26 rfl ti_26 (hAp.get rfl) ((hB208.ext hT.chg).part 0 _ rfl)) fun _ _ e => ⟨_, e, Chg.refl _ _, fun _ => Eq.refl _⟩
      · intro a w hT
        have hAp := hT.ag hA203 [(8, .pointer (some (⟨B_103, 0, none⟩ : Addr)))] ⟨rfl, trivial⟩ (by kernel_rfl)
        have e318 : a.tmps.getD 86 undef = .bool ((((((r_213 == r_217) && (r_226 == r_232)) && (decide (r_244 = r_250))) && (decide (r_262 = r_268))) && (decide (r_280 = r_286))) && (r_300 == r_308)) := hT.vals 42 rfl 86 rfl
        have hAp := hAp.add e318
        exact opk_gval hAp rfl rfl (g := true) (e := ((((((r_213 == r_217) && (r_226 == r_232)) && (decide (r_244 = r_250))) && (decide (r_262 = r_268))) && (decide (r_280 = r_286))) && (r_300 == r_308))) rfl (fun hg => r_loadN (cs := [.int .i64 r_90_Kind, .string (Bs r_90_Name), .string (Bs r_90_Text), Sl.v r_90_Attrs, Sl.v r_90_Kids]) Try.underlying26 rfl ti_26 (hAp.get rfl) ((hB209.ext hT.chg).part 0 _ rfl)) fun _ _ e => ⟨_, e, Chg.refl _ _, fun _ => Eq.refl _⟩
      · intro a w hT
        have hAp := hT.ag hA203 [] trivial (by kernel_rfl)
        have e319 : a.tmps.getD 86 undef = .bool ((((((r_213 == r_217) && (r_226 == r_232)) && (decide (r_244 = r_250))) && (decide (r_262 = r_268))) && (decide (r_280 = r_286))) && (r_300 == r_308)) := hT.vals 42 rfl 86 rfl
        have hAp := hAp.add e319
        have e320 : a.tmps.getD 87 undef = cV (true && (((((((r_213 == r_217) && (r_226 == r_232)) && (decide (r_244 = r_250))) && (decide (r_262 = r_268))) && (decide (r_280 = r_286))) && (r_300 == r_308)) == true)) (.agg #[.int .i64 r_80_Kind, .string (Bs r_80_Name), .string (Bs r_80_Text), Sl.v r_80_Attrs, Sl.v r_80_Kids]) := hT.vals 43 rfl 87 rfl
        have hAp := hAp.add e320
        have e321 : a.tmps.getD 88 undef = cV (true && (((((((r_213 == r_217) && (r_226 == r_232)) && (decide (r_244 = r_250))) && (decide (r_262 = r_268))) && (decide (r_280 = r_286))) && (r_300 == r_308)) == true)) (.agg #[.int .i64 r_90_Kind, .string (Bs r_90_Name), .string (Bs r_90_Text), Sl.v r_90_Attrs, Sl.v r_90_Kids]) := hT.vals 44 rfl 88 rfl
        have hAp := hAp.add e321
        exact opk_gcall hAp rfl rfl (g := true) (e := ((((((r_213 == r_217) && (r_226 == r_232)) && (decide (r_244 = r_250))) && (decide (r_262 = r_268))) && (decide (r_280 = r_286))) && (r_300 == r_308))) rfl (fun hg => r_call (args := #[.agg #[.int .i64 r_80_Kind, .string (Bs r_80_Name), .string (Bs r_80_Text), Sl.v r_80_Attrs, Sl.v r_80_Kids], .agg #[.int .i64 r_90_Kind, .string (Bs r_90_Name), .string (Bs r_90_Text), Sl.v r_90_Attrs, Sl.v r_90_Kids]]) Try.func24 (by decide) rfl (map_arr (ml_cons (cv_get (hAp.get rfl) hg) (ml_cons (cv_get (hAp.get rfl) hg) ml_nil))) rfl) (fun hg => hc323 ⟨⟨⟨⟨⟨(b_and_t (b_and_t (b_and_t (b_and_t (b_and_t (g_t hg)).1).1).1).1).1, (b_and_t (b_and_t (b_and_t (b_and_t (b_and_t (g_t hg)).1).1).1).1).2⟩, (of_decide_eq_true (b_and_t (b_and_t (b_and_t (b_and_t (g_t hg)).1).1).1).2)⟩, (of_decide_eq_true (b_and_t (b_and_t (b_and_t (g_t hg)).1).1).2)⟩, (of_decide_eq_true (b_and_t (b_and_t (g_t hg)).1).2)⟩, (b_and_t (g_t hg)).2⟩ w hT.chg) fun _ _ _ e hE => ⟨_, e, hE, fun _ => Eq.refl _⟩
      · intro a w hT
        have hAp := hT.ag hA203 [(3, .pointer (some (⟨B_4, 0, none⟩ : Addr)))] ⟨rfl, trivial⟩ (by kernel_rfl)
        have e325 : a.tmps.getD 86 undef = .bool ((((((r_213 == r_217) && (r_226 == r_232)) && (decide (r_244 = r_250))) && (decide (r_262 = r_268))) && (decide (r_280 = r_286))) && (r_300 == r_308)) := hT.vals 42 rfl 86 rfl
        have hAp := hAp.add e325
        exact opk_gval hAp rfl rfl (g := true) (e := ((((((r_213 == r_217) && (r_226 == r_232)) && (decide (r_244 = r_250))) && (decide (r_262 = r_268))) && (decide (r_280 = r_286))) && (r_300 == r_308))) rfl (fun hg => r_loadN (cs := [.int .i64 a_1_Kind, .string (Bs a_1_Name), .string (Bs a_1_Text), Sl.v a_1_Attrs, Sl.v a_1_Kids]) Try.underlying26 rfl ti_26 (hAp.get rfl) ((hB206.ext hT.chg).part 0 _ rfl)) fun _ _ e => ⟨_, e, Chg.refl _ _, fun _ => Eq.refl _⟩
      · intro a w hT
        have hAp := hT.ag hA203 [(4, .pointer (some (⟨B_12, 0, none⟩ : Addr)))] ⟨rfl, trivial⟩ (by kernel_rfl)
        have e326 : a.tmps.getD 86 undef = .bool ((((((r_213 == r_217) && (r_226 == r_232)) && (decide (r_244 = r_250))) && (decide (r_262 = r_268))) && (decide (r_280 = r_286))) && (r_300 == r_308)) := hT.vals 42 rfl 86 rfl
        have hAp := hAp.add e326
        exact opk_gval hAp rfl rfl (g := true) (e := ((((((r_213 == r_217) && (r_226 == r_232)) && (decide (r_244 = r_250))) && (decide (r_262 = r_268))) && (decide (r_280 = r_286))) && (r_300 == r_308))) rfl (fun hg => r_loadN (cs := [.int .i64 b_2_Kind, .string (Bs b_2_Name), .string (Bs b_2_Text), Sl.v b_2_Attrs, Sl.v b_2_Kids]) Try.underlying26 rfl ti_26 (hAp.get rfl) ((hB207.ext hT.chg).part 0 _ rfl)) fun _ _ e => ⟨_, e, Chg.refl _ _, fun _ => Eq.refl _⟩
      · intro a w hT
        have hAp := hT.ag hA203 [] trivial (by kernel_rfl)
        have e327 : a.tmps.getD 86 undef = .bool ((((((r_213 == r_217) && (r_226 == r_232)) && (decide (r_244 = r_250))) && (decide (r_262 = r_268))) && (decide (r_280 = r_286))) && (r_300 == r_308)) := hT.vals 42 rfl 86 rfl
        have hAp := hAp.add e327
        have e328 : a.tmps.getD 90 undef = cV (true && (((((((r_213 == r_217) && (r_226 == r_232)) && (decide (r_244 = r_250))) && (decide (r_262 = r_268))) && (decide (r_280 = r_286))) && (r_300 == r_308)) == true)) (.agg #[.int .i64 a_1_Kind, .string (Bs a_1_Name), .string (Bs a_1_Text), Sl.v a_1_Attrs, Sl.v a_1_Kids]) := hT.vals 46 rfl 90 rfl
        have hAp := hAp.add e328
        have e329 : a.tmps.getD 91 undef = cV (true && (((((((r_213 == r_217) && (r_226 == r_232)) && (decide (r_244 = r_250))) && (decide (r_262 = r_268))) && (decide (r_280 = r_286))) && (r_300 == r_308)) == true)) (.agg #[.int .i64 b_2_Kind, .string (Bs b_2_Name), .string (Bs b_2_Text), Sl.v b_2_Attrs, Sl.v b_2_Kids]) := hT.vals 47 rfl 91 rfl
        have hAp := hAp.add e329
        exact opk_gcall hAp rfl rfl (g := true) (e := ((((((r_213 == r_217) && (r_226 == r_232)) && (decide (r_244 = r_250))) && (decide (r_262 = r_268))) && (decide (r_280 = r_286))) && (r_300 == r_308))) rfl (fun hg => r_call (args := #[.agg #[.int .i64 a_1_Kind, .string (Bs a_1_Name), .string (Bs a_1_Text), Sl.v a_1_Attrs, Sl.v a_1_Kids], .agg #[.int .i64 b_2_Kind, .string (Bs b_2_Name), .string (Bs b_2_Text), Sl.v b_2_Attrs, Sl.v b_2_Kids]]) Try.func33 (by decide) rfl (map_arr (ml_cons (cv_get (hAp.get rfl) hg) (ml_cons (cv_get (hAp.get rfl) hg) ml_nil))) rfl) (fun hg => hc331 ⟨⟨⟨⟨⟨(b_and_t (b_and_t (b_and_t (b_and_t (b_and_t (g_t hg)).1).1).1).1).1, (b_and_t (b_and_t (b_and_t (b_and_t (b_and_t (g_t hg)).1).1).1).1).2⟩, (of_decide_eq_true (b_and_t (b_and_t (b_and_t (b_and_t (g_t hg)).1).1).1).2)⟩, (of_decide_eq_true (b_and_t (b_and_t (b_and_t (g_t hg)).1).1).2)⟩, (of_decide_eq_true (b_and_t (b_and_t (g_t hg)).1).2)⟩, (b_and_t (g_t hg)).2⟩ w hT.chg) fun _ _ _ e hE => ⟨_, e, hE, fun _ => Eq.refl _⟩
      · intro a w hT
        have hAp := hT.ag hA203 [] trivial (by kernel_rfl)
        have e333 : a.tmps.getD 86 undef = .bool ((((((r_213 == r_217) && (r_226 == r_232)) && (decide (r_244 = r_250))) && (decide (r_262 = r_268))) && (decide (r_280 = r_286))) && (r_300 == r_308)) := hT.vals 42 rfl 86 rfl
        have hAp := hAp.add e333
        have e334 : a.tmps.getD 89 undef = cV (true && (((((((r_213 == r_217) && (r_226 == r_232)) && (decide (r_244 = r_250))) && (decide (r_262 = r_268))) && (decide (r_280 = r_286))) && (r_300 == r_308)) == true)) (.int .i64 r_322) := hT.vals 45 rfl 89 rfl
        have hAp := hAp.add e334
        have e335 : a.tmps.getD 92 undef = cV (true && (((((((r_213 == r_217) && (r_226 == r_232)) && (decide (r_244 = r_250))) && (decide (r_262 = r_268))) && (decide (r_280 = r_286))) && (r_300 == r_308)) == true)) (.int .i64 r_330) := hT.vals 48 rfl 92 rfl
        have hAp := hAp.add e335
        exact opk_gval hAp rfl rfl (g := true) (e := ((((((r_213 == r_217) && (r_226 == r_232)) && (decide (r_244 = r_250))) && (decide (r_262 = r_268))) && (decide (r_280 = r_286))) && (r_300 == r_308))) rfl (fun hg => r_eql (cv_get (hAp.get rfl) hg) (cv_get (hAp.get rfl) hg)) fun _ _ e => ⟨_, e, Chg.refl _ _, fun _ => Eq.refl _⟩
      · intro a w hT
        have hAp := hT.ag hA203 [] trivial (by kernel_rfl)
        have e336 : a.tmps.getD 86 undef = .bool ((((((r_213 == r_217) && (r_226 == r_232)) && (decide (r_244 = r_250))) && (decide (r_262 = r_268))) && (decide (r_280 = r_286))) && (r_300 == r_308)) := hT.vals 42 rfl 86 rfl
        have hAp := hAp.add e336
        have e337 : a.tmps.getD 93 undef = cV (true && (((((((r_213 == r_217) && (r_226 == r_232)) && (decide (r_244 = r_250))) && (decide (r_262 = r_268))) && (decide (r_280 = r_286))) && (r_300 == r_308)) == true)) (.bool (decide (r_322 = r_330))) := hT.vals 49 rfl 93 rfl
        have hAp := hAp.add e337
        exact opk_val hAp rfl (r_pick_and (g := (true && (((((((r_213 == r_217) && (r_226 == r_232)) && (decide (r_244 = r_250))) && (decide (r_262 = r_268))) && (decide (r_280 = r_286))) && (r_300 == r_308)) == true))) (hAp.get rfl) (hAp.get rfl) (fun he => g_mkt rfl he)) fun _ _ e => ⟨_, e, Chg.refl _ _, fun _ => Eq.refl _⟩
      · intro a w hT
        have hAp := hT.ag hA203 [] trivial (by kernel_rfl)
        have e338 : a.tmps.getD 94 undef = .bool (((((((r_213 == r_217) && (r_226 == r_232)) && (decide (r_244 = r_250))) && (decide (r_262 = r_268))) && (decide (r_280 = r_286))) && (r_300 == r_308)) && (decide (r_322 = r_330))) := hT.vals 50 rfl 94 rfl
        have hAp := hAp.add e338
        exact opk_val hAp rfl (r_move (hAp.get rfl)) fun _ _ e => ⟨_, e, Chg.refl _ _, fun _ => Eq.refl _⟩
      · intro a w hT
        have hAp := hT.ag hA203 [(9, .string (Bs r_0_163))] ⟨rfl, trivial⟩ (by kernel_rfl)
        have e339 : a.tmps.getD 95 undef = .bool (((((((r_213 == r_217) && (r_226 == r_232)) && (decide (r_244 = r_250))) && (decide (r_262 = r_268))) && (decide (r_280 = r_286))) && (r_300 == r_308)) && (decide (r_322 = r_330))) := hT.vals 51 rfl 95 rfl
        have hAp := hAp.add e339
        exact opk_gval hAp rfl rfl (g := true) (e := (((((((r_213 == r_217) && (r_226 == r_232)) && (decide (r_244 = r_250))) && (decide (r_262 = r_268))) && (decide (r_280 = r_286))) && (r_300 == r_308)) && (decide (r_322 = r_330)))) rfl (fun hg => r_move (hAp.get rfl)) fun _ _ e => ⟨_, e, Chg.refl _ _, fun _ => Eq.refl _⟩
      · intro a w hT
        have hAp := hT.ag hA203 [(11, .string (Bs r_0_185))] ⟨rfl, trivial⟩ (by kernel_rfl)
        have e340 : a.tmps.getD 95 undef = .bool (((((((r_213 == r_217) && (r_226 == r_232)) && (decide (r_244 = r_250))) && (decide (r_262 = r_268))) && (decide (r_280 = r_286))) && (r_300 == r_308)) && (decide (r_322 = r_330))) := hT.vals 51 rfl 95 rfl
        have hAp := hAp.add e340
        exact opk_gval hAp rfl rfl (g := true) (e := (((((((r_213 == r_217) && (r_226 == r_232)) && (decide (r_244 = r_250))) && (decide (r_262 = r_268))) && (decide (r_280 = r_286))) && (r_300 == r_308)) && (decide (r_322 = r_330)))) rfl (fun hg => r_move (hAp.get rfl)) fun _ _ e => ⟨_, e, Chg.refl _ _, fun _ => Eq.refl _⟩
      · intro a w hT
        have hAp := hT.ag hA203 [] trivial (by kernel_rfl)
        have e341 : a.tmps.getD 95 undef = .bool (((((((r_213 == r_217) && (r_226 == r_232)) && (decide (r_244 = r_250))) && (decide (r_262 = r_268))) && (decide (r_280 = r_286))) && (r_300 == r_308)) && (decide (r_322 = r_330))) := hT.vals 51 rfl 95 rfl
        have hAp := hAp.add e341
        have e342 : a.tmps.getD 96 undef = cV (true && ((((((((r_213 == r_217) && (r_226 == r_232)) && (decide (r_244 = r_250))) && (decide (r_262 = r_268))) && (decide (r_280 = r_286))) && (r_300 == r_308)) && (decide (r_322 = r_330))) == true)) (.string (Bs r_0_163)) := hT.vals 52 rfl 96 rfl
        have hAp := hAp.add e342
        have e343 : a.tmps.getD 97 undef = cV (true && ((((((((r_213 == r_217) && (r_226 == r_232)) && (decide (r_244 = r_250))) && (decide (r_262 = r_268))) && (decide (r_280 = r_286))) && (r_300 == r_308)) && (decide (r_322 = r_330))) == true)) (.string (Bs r_0_185)) := hT.vals 53 rfl 97 rfl
        have hAp := hAp.add e343
        exact opk_gval hAp rfl rfl (g := true) (e := (((((((r_213 == r_217) && (r_226 == r_232)) && (decide (r_244 = r_250))) && (decide (r_262 = r_268))) && (decide (r_280 = r_286))) && (r_300 == r_308)) && (decide (r_322 = r_330)))) rfl (fun hg => r_seql (cv_get (hAp.get rfl) hg) (cv_get (hAp.get rfl) hg)) fun _ _ e => ⟨_, e, Chg.refl _ _, fun _ => Eq.refl _⟩
      · intro a w hT
        have hAp := hT.ag hA203 [] trivial (by kernel_rfl)
        have e344 : a.tmps.getD 95 undef = .bool (((((((r_213 == r_217) && (r_226 == r_232)) && (decide (r_244 = r_250))) && (decide (r_262 = r_268))) && (decide (r_280 = r_286))) && (r_300 == r_308)) && (decide (r_322 = r_330))) := hT.vals 51 rfl 95 rfl
        have hAp := hAp.add e344
        have e345 : a.tmps.getD 98 undef = cV (true && ((((((((r_213 == r_217) && (r_226 == r_232)) && (decide (r_244 = r_250))) && (decide (r_262 = r_268))) && (decide (r_280 = r_286))) && (r_300 == r_308)) && (decide (r_322 = r_330))) == true)) (.bool (decide (r_0_163 = r_0_185))) := hT.vals 54 rfl 98 rfl
        have hAp := hAp.add e345
        exact opk_val hAp rfl (r_pick_and (g := (true && ((((((((r_213 == r_217) && (r_226 == r_232)) && (decide (r_244 = r_250))) && (decide (r_262 = r_268))) && (decide (r_280 = r_286))) && (r_300 == r_308)) && (decide (r_322 = r_330))) == true))) (hAp.get rfl) (hAp.get rfl) (fun he => g_mkt rfl he)) fun _ _ e => ⟨_, e, Chg.refl _ _, fun _ => Eq.refl _⟩
      · intro a w hT
        have hAp := hT.ag hA203 [] trivial (by kernel_rfl)
        have e346 : a.tmps.getD 99 undef = .bool ((((((((r_213 == r_217) && (r_226 == r_232)) && (decide (r_244 = r_250))) && (decide (r_262 = r_268))) && (decide (r_280 = r_286))) && (r_300 == r_308)) && (decide (r_322 = r_330))) && (decide (r_0_163 = r_0_185))) := hT.vals 55 rfl 99 rfl
        have hAp := hAp.add e346
        exact opk_val hAp rfl (r_move (hAp.get rfl)) fun _ _ e => ⟨_, e, Chg.refl _ _, fun _ => Eq.refl _⟩
      · intro a w hT
        have hAp := hT.ag hA203 [(10, .bool r_1_164)] ⟨rfl, trivial⟩ (by kernel_rfl)
        have e347 : a.tmps.getD 100 undef = .bool ((((((((r_213 == r_217) && (r_226 == r_232)) && (decide (r_244 = r_250))) && (decide (r_262 = r_268))) && (decide (r_280 = r_286))) && (r_300 == r_308)) && (decide (r_322 = r_330))) && (decide (r_0_163 = r_0_185))) := hT.vals 56 rfl 100 rfl
        have hAp := hAp.add e347
        exact opk_gval hAp rfl rfl (g := true) (e := ((((((((r_213 == r_217) && (r_226 == r_232)) && (decide (r_244 = r_250))) && (decide (r_262 = r_268))) && (decide (r_280 = r_286))) && (r_300 == r_308)) && (decide (r_322 = r_330))) && (decide (r_0_163 = r_0_185)))) rfl (fun hg => r_move (hAp.get rfl)) fun _ _ e => ⟨_, e, Chg.refl _ _, fun _ => Eq.refl _⟩
      · intro a w hT
        have hAp := hT.ag hA203 [(12, .bool r_1_186)] ⟨rfl, trivial⟩ (by kernel_rfl)
        have e348 : a.tmps.getD 100 undef = .bool ((((((((r_213 == r_217) && (r_226 == r_232)) && (decide (r_244 = r_250))) && (decide (r_262 = r_268))) && (decide (r_280 = r_286))) && (r_300 == r_308)) && (decide (r_322 = r_330))) && (decide (r_0_163 = r_0_185))) := hT.vals 56 rfl 100 rfl
        have hAp := hAp.add e348
        exact opk_gval hAp rfl rfl (g := true) (e := ((((((((r_213 == r_217) && (r_226 == r_232)) && (decide (r_244 = r_250))) && (decide (r_262 = r_268))) && (decide (r_280 = r_286))) && (r_300 == r_308)) && (decide (r_322 = r_330))) && (decide (r_0_163 = r_0_185)))) rfl (fun hg => r_move (hAp.get rfl)) fun _ _ e => ⟨_, e, Chg.refl _ _, fun _ => Eq.refl _⟩
      · intro a w hT
        have hAp := hT.ag hA203 [] trivial (by kernel_rfl)
        have e349 : a.tmps.getD 100 undef = .bool ((((((((r_213 == r_217) && (r_226 == r_232)) && (decide (r_244 = r_250))) && (decide (r_262 = r_268))) && (decide (r_280 = r_286))) && (r_300 == r_308)) && (decide (r_322 = r_330))) && (decide (r_0_163 = r_0_185))) := hT.vals 56 rfl 100 rfl
        have hAp := hAp.add e349
        have e350 : a.tmps.getD 101 undef = cV (true && (((((((((r_213 == r_217) && (r_226 == r_232)) && (decide (r_244 = r_250))) && (decide (r_262 = r_268))) && (decide (r_280 = r_286))) && (r_300 == r_308)) && (decide (r_322 = r_330))) && (decide (r_0_163 = r_0_185))) == true)) (.bool r_1_164) := hT.vals 57 rfl 101 rfl
        have hAp := hAp.add e350
        have e351 : a.tmps.getD 102 undef = cV (true && (((((((((r_213 == r_217) && (r_226 == r_232)) && (decide (r_244 = r_250))) && (decide (r_262 = r_268))) && (decide (r_280 = r_286))) && (r_300 == r_308)) && (decide (r_322 = r_330))) && (decide (r_0_163 = r_0_185))) == true)) (.bool r_1_186) := hT.vals 58 rfl 102 rfl
        have hAp := hAp.add e351
        exact opk_gval hAp rfl rfl (g := true) (e := ((((((((r_213 == r_217) && (r_226 == r_232)) && (decide (r_244 = r_250))) && (decide (r_262 = r_268))) && (decide (r_280 = r_286))) && (r_300 == r_308)) && (decide (r_322 = r_330))) && (decide (r_0_163 = r_0_185)))) rfl (fun hg => r_beql (cv_get (hAp.get rfl) hg) (cv_get (hAp.get rfl) hg) Try.underlying4) fun _ _ e => ⟨_, e, Chg.refl _ _, fun _ => Eq.refl _⟩
      · intro a w hT
        have hAp := hT.ag hA203 [] trivial (by kernel_rfl)
        have e352 : a.tmps.getD 100 undef = .bool ((((((((r_213 == r_217) && (r_226 == r_232)) && (decide (r_244 = r_250))) && (decide (r_262 = r_268))) && (decide (r_280 = r_286))) && (r_300 == r_308)) && (decide (r_322 = r_330))) && (decide (r_0_163 = r_0_185))) := hT.vals 56 rfl 100 rfl
        have hAp := hAp.add e352
        have e353 : a.tmps.getD 103 undef = cV (true && (((((((((r_213 == r_217) && (r_226 == r_232)) && (decide (r_244 = r_250))) && (decide (r_262 = r_268))) && (decide (r_280 = r_286))) && (r_300 == r_308)) && (decide (r_322 = r_330))) && (decide (r_0_163 = r_0_185))) == true)) (.bool (r_1_164 == r_1_186)) := hT.vals 59 rfl 103 rfl
        have hAp := hAp.add e353
        exact opk_val hAp rfl (r_pick_and (g := (true && (((((((((r_213 == r_217) && (r_226 == r_232)) && (decide (r_244 = r_250))) && (decide (r_262 = r_268))) && (decide (r_280 = r_286))) && (r_300 == r_308)) && (decide (r_322 = r_330))) && (decide (r_0_163 = r_0_185))) == true))) (hAp.get rfl) (hAp.get rfl) (fun he => g_mkt rfl he)) fun _ _ e => ⟨_, e, Chg.refl _ _, fun _ => Eq.refl _⟩
      · intro a w hT
        have hAp := hT.ag hA203 [] trivial (by kernel_rfl)
        have e354 : a.tmps.getD 104 undef = .bool (((((((((r_213 == r_217) && (r_226 == r_232)) && (decide (r_244 = r_250))) && (decide (r_262 = r_268))) && (decide (r_280 = r_286))) && (r_300 == r_308)) && (decide (r_322 = r_330))) && (decide (r_0_163 = r_0_185))) && (r_1_164 == r_1_186)) := hT.vals 60 rfl 104 rfl
        have hAp := hAp.add e354
        exact opk_val hAp rfl (r_move (hAp.get rfl)) fun _ _ e => ⟨_, e, Chg.refl _ _, fun _ => Eq.refl _⟩
      · intro a w hT
        have hAp := hT.ag hA203 [(7, .pointer (some (⟨B_98, 0, none⟩ : Addr)))] ⟨rfl, trivial⟩ (by kernel_rfl)
        have e355 : a.tmps.getD 105 undef = .bool (((((((((r_213 == r_217) && (r_226 == r_232)) && (decide (r_244 = r_250))) && (decide (r_262 = r_268))) && (decide (r_280 = r_286))) && (r_300 == r_308)) && (decide (r_322 = r_330))) && (decide (r_0_163 = r_0_185))) && (r_1_164 == r_1_186)) := hT.vals 61 rfl 105 rfl
        have hAp := hAp.add e355
        exact opk_gval hAp rfl rfl (g := true) (e := (((((((((r_213 == r_217) && (r_226 == r_232)) && (decide (r_244 = r_250))) && (decide (r_262 = r_268))) && (decide (r_280 = r_286))) && (r_300 == r_308)) && (decide (r_322 = r_330))) && (decide (r_0_163 = r_0_185))) && (r_1_164 == r_1_186))) rfl (fun hg => r_loadN (cs := [.int .i64 r_80_Kind, .string (Bs r_80_Name), .string (Bs r_80_Text), Sl.v r_80_Attrs, Sl.v r_80_Kids]) Try.underlying26 rfl ti_26 (hAp.get rfl) ((hB208.ext hT.chg).part 0 _ rfl)) fun _ _ e => ⟨_, e, Chg.refl _ _, fun _ => Eq.refl _⟩
      · intro a w hT
        have hAp := hT.ag hA203 [(3, .pointer (some (⟨B_4, 0, none⟩ : Addr)))] ⟨rfl, trivial⟩ (by kernel_rfl)
        have e356 : a.tmps.getD 105 undef = .bool (((((((((r_213 == r_217) && (r_226 == r_232)) && (decide (r_244 = r_250))) && (decide (r_262 = r_268))) && (decide (r_280 = r_286))) && (r_300 == r_308)) && (decide (r_322 = r_330))) && (decide (r_0_163 = r_0_185))) && (r_1_164 == r_1_186)) := hT.vals 61 rfl 105 rfl
        have hAp := hAp.add e356
        exact opk_gval hAp rfl rfl (g := true) (e := (((((((((r_213 == r_217) && (r_226 == r_232)) && (decide (r_244 = r_250))) && (decide (r_262 = r_268))) && (decide (r_280 = r_286))) && (r_300 == r_308)) && (decide (r_322 = r_330))) && (decide (r_0_163 = r_0_185))) && (r_1_164 == r_1_186))) rfl (fun hg => r_loadN (cs := [.int .i64 a_1_Kind, .string (Bs a_1_Name), .string (Bs a_1_Text), Sl.v a_1_Attrs, Sl.v a_1_Kids]) Try.underlying26 rfl ti_26 (hAp.get rfl) ((hB206.ext hT.chg).part 0 _ rfl)) fun _ _ e => ⟨_, e, Chg.refl _ _, fun _ => Eq.refl _⟩
      · intro a w hT
        have hAp := hT.ag hA203 [] trivial (by kernel_rfl)
        have e357 : a.tmps.getD 105 undef = .bool (((((((((r_213 == r_217) && (r_226 == r_232)) && (decide (r_244 = r_250))) && (decide (r_262 = r_268))) && (decide (r_280 = r_286))) && (r_300 == r_308)) && (decide (r_322 = r_330))) && (decide (r_0_163 = r_0_185))) && (r_1_164 == r_1_186)) := hT.vals 61 rfl 105 rfl
        have hAp := hAp.add e357
        have e358 : a.tmps.getD 106 undef = cV (true && ((((((((((r_213 == r_217) && (r_226 == r_232)) && (decide (r_244 = r_250))) && (decide (r_262 = r_268))) && (decide (r_280 = r_286))) && (r_300 == r_308)) && (decide (r_322 = r_330))) && (decide (r_0_163 = r_0_185))) && (r_1_164 == r_1_186)) == true)) (.agg #[.int .i64 r_80_Kind, .string (Bs r_80_Name), .string (Bs r_80_Text), Sl.v r_80_Attrs, Sl.v r_80_Kids]) := hT.vals 62 rfl 106 rfl
        have hAp := hAp.add e358
        have e359 : a.tmps.getD 107 undef = cV (true && ((((((((((r_213 == r_217) && (r_226 == r_232)) && (decide (r_244 = r_250))) && (decide (r_262 = r_268))) && (decide (r_280 = r_286))) && (r_300 == r_308)) && (decide (r_322 = r_330))) && (decide (r_0_163 = r_0_185))) && (r_1_164 == r_1_186)) == true)) (.agg #[.int .i64 a_1_Kind, .string (Bs a_1_Name), .string (Bs a_1_Text), Sl.v a_1_Attrs, Sl.v a_1_Kids]) := hT.vals 63 rfl 107 rfl
        have hAp := hAp.add e359
        exact opk_gcall hAp rfl rfl (g := true) (e := (((((((((r_213 == r_217) && (r_226 == r_232)) && (decide (r_244 = r_250))) && (decide (r_262 = r_268))) && (decide (r_280 = r_286))) && (r_300 == r_308)) && (decide (r_322 = r_330))) && (decide (r_0_163 = r_0_185))) && (r_1_164 == r_1_186))) rfl (fun hg => r_call (args := #[.agg #[.int .i64 r_80_Kind, .string (Bs r_80_Name), .string (Bs r_80_Text), Sl.v r_80_Attrs, Sl.v r_80_Kids], .agg #[.int .i64 a_1_Kind, .string (Bs a_1_Name), .string (Bs a_1_Text), Sl.v a_1_Attrs, Sl.v a_1_Kids]]) Try.func32 (by decide) rfl (map_arr (ml_cons (cv_get (hAp.get rfl) hg) (ml_cons (cv_get (hAp.get rfl) hg) ml_nil))) rfl) (fun hg => hc361 ⟨⟨⟨⟨⟨⟨⟨⟨(b_and_t (b_and_t (b_and_t (b_and_t (b_and_t (b_and_t (b_and_t (b_and_t (g_t hg)).1).1).1).1).1).1).1).1, (b_and_t (b_and_t (b_and_t (b_and_t (b_and_t (b_and_t (b_and_t (b_and_t (g_t hg)).1).1).1).1).1).1).1).2⟩, (of_decide_eq_true (b_and_t (b_and_t (b_and_t (b_and_t (b_and_t (b_and_t (b_and_t (g_t hg)).1).1).1).1).1).1).2)⟩, (of_decide_eq_true (b_and_t (b_and_t (b_and_t (b_and_t (b_and_t (b_and_t (g_t hg)).1).1).1).1).1).2)⟩, (of_decide_eq_true (b_and_t (b_and_t (b_and_t (b_and_t (b_and_t (g_t hg)).1).1).1).1).2)⟩, (b_and_t (b_and_t (b_and_t (b_and_t (g_t hg)).1).1).1).2⟩, (of_decide_eq_true (b_and_t (b_and_t (b_and_t (g_t hg)).1).1).2)⟩, (of_decide_eq_true (b_and_t (b_and_t (g_t hg)).1).2)⟩, (b_and_t (g_t hg)).2⟩ w hT.chg) fun _ _ _ e hE => ⟨_, e, hE, fun _ => Eq.refl _⟩
      · intro a w hT
        have hAp := hT.ag hA203 [] trivial (by kernel_rfl)
        have e363 : a.tmps.getD 105 undef = .bool (((((((((r_213 == r_217) && (r_226 == r_232)) && (decide (r_244 = r_250))) && (decide (r_262 = r_268))) && (decide (r_280 = r_286))) && (r_300 == r_308)) && (decide (r_322 = r_330))) && (decide (r_0_163 = r_0_185))) && (r_1_164 == r_1_186)) := hT.vals 61 rfl 105 rfl
        have hAp := hAp.add e363
        have e364 : a.tmps.getD 108 undef = cV (true && ((((((((((r_213 == r_217) && (r_226 == r_232)) && (decide (r_244 = r_250))) && (decide (r_262 = r_268))) && (decide (r_280 = r_286))) && (r_300 == r_308)) && (decide (r_322 = r_330))) && (decide (r_0_163 = r_0_185))) && (r_1_164 == r_1_186)) == true)) (.bool r_360) := hT.vals 64 rfl 108 rfl
        have hAp := hAp.add e364
        exact opk_val hAp rfl (r_pick_and (g := (true && ((((((((((r_213 == r_217) && (r_226 == r_232)) && (decide (r_244 = r_250))) && (decide (r_262 = r_268))) && (decide (r_280 = r_286))) && (r_300 == r_308)) && (decide (r_322 = r_330))) && (decide (r_0_163 = r_0_185))) && (r_1_164 == r_1_186)) == true))) (hAp.get rfl) (hAp.get rfl) (fun he => g_mkt rfl he)) fun _ _ e => ⟨_, e, Chg.refl _ _, fun _ => Eq.refl _⟩
      · intro a w hT
        have hAp := hT.ag hA203 [] trivial (by kernel_rfl)
        have e365 : a.tmps.getD 109 undef = .bool ((((((((((r_213 == r_217) && (r_226 == r_232)) && (decide (r_244 = r_250))) && (decide (r_262 = r_268))) && (decide (r_280 = r_286))) && (r_300 == r_308)) && (decide (r_322 = r_330))) && (decide (r_0_163 = r_0_185))) && (r_1_164 == r_1_186)) && r_360) := hT.vals 65 rfl 109 rfl
        have hAp := hAp.add e365
        exact opk_val hAp rfl (r_move (hAp.get rfl)) fun _ _ e => ⟨_, e, Chg.refl _ _, fun _ => Eq.refl _⟩
      · intro a w hT
        have hAp := hT.ag hA203 [] trivial (by kernel_rfl)
        have e366 : a.tmps.getD 110 undef = .bool ((((((((((r_213 == r_217) && (r_226 == r_232)) && (decide (r_244 = r_250))) && (decide (r_262 = r_268))) && (decide (r_280 = r_286))) && (r_300 == r_308)) && (decide (r_322 = r_330))) && (decide (r_0_163 = r_0_185))) && (r_1_164 == r_1_186)) && r_360) := hT.vals 66 rfl 110 rfl
        have hAp := hAp.add e366
        exact opk_gcall hAp rfl rfl (g := true) (e := ((((((((((r_213 == r_217) && (r_226 == r_232)) && (decide (r_244 = r_250))) && (decide (r_262 = r_268))) && (decide (r_280 = r_286))) && (r_300 == r_308)) && (decide (r_322 = r_330))) && (decide (r_0_163 = r_0_185))) && (r_1_164 == r_1_186)) && r_360)) rfl (fun hg => r_call (args := #[]) Try.func15 (by decide) rfl (map_arr ml_nil) rfl) (fun hg => hc368 ⟨⟨⟨⟨⟨⟨⟨⟨⟨(b_and_t (b_and_t (b_and_t (b_and_t (b_and_t (b_and_t (b_and_t (b_and_t (b_and_t (g_t hg)).1).1).1).1).1).1).1).1).1, (b_and_t (b_and_t (b_and_t (b_and_t (b_and_t (b_and_t (b_and_t (b_and_t (b_and_t (g_t hg)).1).1).1).1).1).1).1).1).2⟩, (of_decide_eq_true (b_and_t (b_and_t (b_and_t (b_and_t (b_and_t (b_and_t (b_and_t (b_and_t (g_t hg)).1).1).1).1).1).1).1).2)⟩, (of_decide_eq_true (b_and_t (b_and_t (b_and_t (b_and_t (b_and_t (b_and_t (b_and_t (g_t hg)).1).1).1).1).1).1).2)⟩, (of_decide_eq_true (b_and_t (b_and_t (b_and_t (b_and_t (b_and_t (b_and_t (g_t hg)).1).1).1).1).1).2)⟩, (b_and_t (b_and_t (b_and_t (b_and_t (b_and_t (g_t hg)).1).1).1).1).2⟩, (of_decide_eq_true (b_and_t (b_and_t (b_and_t (b_and_t (g_t hg)).1).1).1).2)⟩, (of_decide_eq_true (b_and_t (b_and_t (b_and_t (g_t hg)).1).1).2)⟩, (b_and_t (b_and_t (g_t hg)).1).2⟩, (b_and_t (g_t hg)).2⟩ w hT.chg) fun _ _ _ e hE => ⟨_, e, hE, fun _ => Eq.refl _⟩
      · intro a w hT
        have hAp := hT.ag hA203 [] trivial (by kernel_rfl)
        have e370 : a.tmps.getD 110 undef = .bool ((((((((((r_213 == r_217) && (r_226 == r_232)) && (decide (r_244 = r_250))) && (decide (r_262 = r_268))) && (decide (r_280 = r_286))) && (r_300 == r_308)) && (decide (r_322 = r_330))) && (decide (r_0_163 = r_0_185))) && (r_1_164 == r_1_186)) && r_360) := hT.vals 66 rfl 110 rfl
        have hAp := hAp.add e370
        have e371 : a.tmps.getD 111 undef = cV (true && (((((((((((r_213 == r_217) && (r_226 == r_232)) && (decide (r_244 = r_250))) && (decide (r_262 = r_268))) && (decide (r_280 = r_286))) && (r_300 == r_308)) && (decide (r_322 = r_330))) && (decide (r_0_163 = r_0_185))) && (r_1_164 == r_1_186)) && r_360) == true)) (.bool r_367) := hT.vals 67 rfl 111 rfl
        have hAp := hAp.add e371
        exact opk_val hAp rfl (r_pick_and (g := (true && (((((((((((r_213 == r_217) && (r_226 == r_232)) && (decide (r_244 = r_250))) && (decide (r_262 = r_268))) && (decide (r_280 = r_286))) && (r_300 == r_308)) && (decide (r_322 = r_330))) && (decide (r_0_163 = r_0_185))) && (r_1_164 == r_1_186)) && r_360) == true))) (hAp.get rfl) (hAp.get rfl) (fun he => g_mkt rfl he)) fun _ _ e => ⟨_, e, Chg.refl _ _, fun _ => Eq.refl _⟩
      · intro a w hT
        have hAp := hT.ag hA203 [] trivial (by kernel_rfl)
        have e372 : a.tmps.getD 112 undef = .bool (((((((((((r_213 == r_217) && (r_226 == r_232)) && (decide (r_244 = r_250))) && (decide (r_262 = r_268))) && (decide (r_280 = r_286))) && (r_300 == r_308)) && (decide (r_322 = r_330))) && (decide (r_0_163 = r_0_185))) && (r_1_164 == r_1_186)) && r_360) && r_367) := hT.vals 68 rfl 112 rfl
        have hAp := hAp.add e372
        exact opk_val hAp rfl (r_assign (hAp.get rfl)) fun _ _ e => ⟨_, e, Chg.refl _ _, fun _ => Eq.refl _⟩
      · intro a373 w374 hE375 hag376 hv377
        have hA373 := hag376 [] trivial (by kernel_rfl)
        have e379 : a373.tmps.getD 6 undef = .bool (((((((((((r_213 == r_217) && (r_226 == r_232)) && (decide (r_244 = r_250))) && (decide (r_262 = r_268))) && (decide (r_280 = r_286))) && (r_300 == r_308)) && (decide (r_322 = r_330))) && (decide (r_0_163 = r_0_185))) && (r_1_164 == r_1_186)) && r_360) && r_367) := hv377 69 rfl 6 rfl
        have hA380 := hA373.add e379
        have hB381 := hB206.ext hE375
        have hB382 := hB207.ext hE375
        have hB383 := hB208.ext hE375
        have hB384 := hB209.ext hE375
        have hC385 : Chg [] w204 w374 := hE375
        refine PR_end (by kernel_rfl) ?_
        have hA386 := hA380.keep [(6, .bool (((((((((((r_213 == r_217) && (r_226 == r_232)) && (decide (r_244 = r_250))) && (decide (r_262 = r_268))) && (decide (r_280 = r_286))) && (r_300 == r_308)) && (decide (r_322 = r_330))) && (decide (r_0_163 = r_0_185))) && (r_1_164 == r_1_186)) && r_360) && r_367))] ⟨rfl, trivial⟩
        refine then_normal ?_
        refine wp_ret ?_
        have ht387 := ht369 w374    hC385
        exact res_all (vs := [.bool (((((((((((r_213 == r_217) && (r_226 == r_232)) && (decide (r_244 = r_250))) && (decide (r_262 = r_268))) && (decide (r_280 = r_286))) && (r_300 == r_308)) && (decide (r_322 = r_330))) && (decide (r_0_163 = r_0_185))) && (r_1_164 == r_1_186)) && r_360) && r_367)]) rfl hA386 ⟨res_of_tmp hA386 rfl, trivial⟩ ht387

end Go.Proofs.Ytpacegmmbabhjaa
