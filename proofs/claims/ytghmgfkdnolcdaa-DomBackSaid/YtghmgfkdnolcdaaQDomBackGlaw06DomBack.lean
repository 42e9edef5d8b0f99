/-
  PRINTED BY PROGRAM: for each function its condition (vc), and that this suffices (ok).
-/
import Derived.Test.YtghmgfkdnolcdaaQDomBackGT
namespace Go.Proofs.Ytghmgfkdnolcdaa
open Go.RowKit
set_option linter.unusedVariables false

/-- The condition of topiary/topiarylaw06.DomBack. -/
def law06_DomBack.vc (a_1 : Sl) (at_2 : Int) (to_3 : Int) (place_4 : Int) (R : Value → World → Prop) (w : World) : Prop :=
CallK Try.prog 20 #[Sl.v a_1] w [] (fun v w10 => ∃ (r_8_Kind : Int) (r_8_Name : Str) (r_8_Text : Str) (r_8_Attrs : Sl) (r_8_Kids : Sl), v = .agg #[.int .i64 r_8_Kind, .string (Bs r_8_Name), .string (Bs r_8_Text), Sl.v r_8_Attrs, Sl.v r_8_Kids] ∧
∀ (w24 : World) (B_16 : Nat), New w10 B_16 w24 → Chg [] w10 w24 →
CallK Try.prog 25 #[.agg #[.int .i64 r_8_Kind, .string (Bs r_8_Name), .string (Bs r_8_Text), Sl.v r_8_Attrs, Sl.v r_8_Kids]] w24 [B_16] (fun v w36 => ∃ (r_34_Kind : Int) (r_34_Name : Str) (r_34_Text : Str) (r_34_Attrs : Sl) (r_34_Kids : Sl), v = .agg #[.int .i64 r_34_Kind, .string (Bs r_34_Name), .string (Bs r_34_Text), Sl.v r_34_Attrs, Sl.v r_34_Kids] ∧
CallK Try.prog 13 #[.agg #[.int .i64 r_34_Kind, .string (Bs r_34_Name), .string (Bs r_34_Text), Sl.v r_34_Attrs, Sl.v r_34_Kids]] w36 [B_16] (fun v w46 => ∃ (r_0_43 : Option Addr) (r_1_44 : Int), v = .tuple #[.pointer r_0_43, .int .i64 r_1_44] ∧
((r_1_44 ≠ 0) →
R (.bool false) w46) ∧
((¬ (r_1_44 ≠ 0)) →
CallK Try.prog 16 #[.pointer r_0_43] w46 [B_16] (fun v w69 => ∃ (r_67 : Int), v = .int .i64 r_67 ∧
∀ (w78 : World), Chg [] w69 w78 →
∃ V_85 : Sl → World → Prop, (∀ r_84 : Sl, ∀ w' w'' : World, Ext w' w'' → V_85 r_84 w' → V_85 r_84 w'') ∧
(∀ w' : World, Ext w78 w' → Calls Try.prog 21 #[.pointer r_0_43, .int .i64 0] w' (Ret fun v w'' => Ext w' w'' ∧ ∃ r_84 : Sl, v = Sl.v r_84 ∧ V_85 r_84 w'')) ∧
(∀ r_84 : Sl, ∀ w' : World, Ext w78 w' → V_85 r_84 w' → (I64 ((r_84.n : Int) + 1))) ∧
∃ (r_98 : Int), (∀ r_84 : Sl, ∀ w' : World, Ext w78 w' → V_85 r_84 w' → Calls Try.prog 28 #[.int .i64 place_4, .int .i64 ((r_84.n : Int) + 1)] w' (Ret fun v w'' => Ext w' w'' ∧ v = .int .i64 r_98)) ∧
∀ (w102 : World), Chg [] w78 w102 →
CallK Try.prog 14 #[.pointer r_0_43, .int .i64 1000, .int .i64 0, .int .i64 r_98, .agg #[.int .i64 4, .string (Bs ([] : Str)), .string (Bs ([99] : Str)), Sl.v Sl.nil, Sl.v Sl.nil]] w102 [B_16] (fun v w118 => ∃ (r_116 : Int), v = .int .i64 r_116 ∧
∃ (r_129 : Int), (((¬ (r_116 ≠ 0))) → ∀ w' : World, Ext w118 w' → Calls Try.prog 16 #[.pointer r_0_43] w' (Ret fun v w'' => Ext w' w'' ∧ v = .int .i64 r_129)) ∧
(((¬ (r_116 ≠ 0))) → I64 (r_67 + 1)) ∧
∀ (w145 : World), Chg [] w118 w145 →
∃ J_161 : Int → World → Prop, ((((¬ (r_116 ≠ 0)) ∧ (¬ (r_129 ≠ (r_67 + 1))))) → CallK Try.prog 22 #[.pointer r_0_43, .int .i64 1000] w145 [B_16] (fun v w159 => ∃ r_157 : Int, v = .int .i64 r_157 ∧ J_161 r_157 w159)) ∧
((¬ (((¬ (r_116 ≠ 0)) ∧ (¬ (r_129 ≠ (r_67 + 1)))))) → ∃ r_157 : Int, J_161 r_157 w145) ∧
(∀ (r_157 : Int) (w159 : World), J_161 r_157 w159 →
∃ V_175 : Int → Str → Str → Sl → Sl → World → Prop, (∀ r_174_Kind : Int, ∀ r_174_Name : Str, ∀ r_174_Text : Str, ∀ r_174_Attrs : Sl, ∀ r_174_Kids : Sl, ∀ w' w'' : World, Ext w' w'' → V_175 r_174_Kind r_174_Name r_174_Text r_174_Attrs r_174_Kids w' → V_175 r_174_Kind r_174_Name r_174_Text r_174_Attrs r_174_Kids w'') ∧
(((((¬ (r_116 ≠ 0)) ∧ (¬ (r_129 ≠ (r_67 + 1)))) ∧ (¬ (r_157 ≠ 0)))) → ∀ w' : World, Ext w159 w' → Calls Try.prog 18 #[.pointer r_0_43] w' (Ret fun v w'' => Ext w' w'' ∧ ∃ r_174_Kind : Int, ∃ r_174_Name : Str, ∃ r_174_Text : Str, ∃ r_174_Attrs : Sl, ∃ r_174_Kids : Sl, v = .agg #[.int .i64 r_174_Kind, .string (Bs r_174_Name), .string (Bs r_174_Text), Sl.v r_174_Attrs, Sl.v r_174_Kids] ∧ V_175 r_174_Kind r_174_Name r_174_Text r_174_Attrs r_174_Kids w'')) ∧
∃ (r_184 : Bool), (((((¬ (r_116 ≠ 0)) ∧ (¬ (r_129 ≠ (r_67 + 1)))) ∧ (¬ (r_157 ≠ 0)))) → ∀ r_174_Kind : Int, ∀ r_174_Name : Str, ∀ r_174_Text : Str, ∀ r_174_Attrs : Sl, ∀ r_174_Kids : Sl, ∀ w' : World, Ext w159 w' → (((((¬ (r_116 ≠ 0)) ∧ (¬ (r_129 ≠ (r_67 + 1)))) ∧ (¬ (r_157 ≠ 0)))) → V_175 r_174_Kind r_174_Name r_174_Text r_174_Attrs r_174_Kids w') → Calls Try.prog 24 #[.agg #[.int .i64 r_174_Kind, .string (Bs r_174_Name), .string (Bs r_174_Text), Sl.v r_174_Attrs, Sl.v r_174_Kids], .agg #[.int .i64 r_8_Kind, .string (Bs r_8_Name), .string (Bs r_8_Text), Sl.v r_8_Attrs, Sl.v r_8_Kids]] w' (Ret fun v w'' => Ext w' w'' ∧ v = .bool r_184)) ∧
(((((r_116 ≠ 0) ∨ (r_129 ≠ (r_67 + 1))) ∨ (r_157 ≠ 0)) ∨ (r_184 = false)) →
∀ (w192 : World), Chg [] w159 w192 →
R (.bool false) w192) ∧
(((((¬ (r_116 ≠ 0)) ∧ (¬ (r_129 ≠ (r_67 + 1)))) ∧ (¬ (r_157 ≠ 0))) ∧ (r_184 = true)) →
∀ (w192 : World), Chg [] w159 w192 →
CallK Try.prog 28 #[.int .i64 at_2, .int .i64 r_67] w192 [B_16] (fun v w212 => ∃ (r_210 : Int), v = .int .i64 r_210 ∧
CallK Try.prog 28 #[.int .i64 to_3, .int .i64 r_67] w212 [B_16] (fun v w225 => ∃ (r_223 : Int), v = .int .i64 r_223 ∧
CallK Try.prog 33 #[.pointer r_0_43, .int .i64 r_210] w225 [B_16] (fun v w238 => ∃ (r_236 : Int), v = .int .i64 r_236 ∧
CallK Try.prog 27 #[.pointer r_0_43, .int .i64 r_210] w238 [B_16] (fun v w249 => ∃ (r_247 : Int), v = .int .i64 r_247 ∧
CallK Try.prog 26 #[.pointer r_0_43, .int .i64 r_210, .int .i64 r_223, .int .i64 0] w249 [B_16] (fun v w264 => ∃ (r_262 : Int), v = .int .i64 r_262 ∧
∃ J_327 : World → Prop,
(((r_262 = 0) →
CallK Try.prog 33 #[.pointer r_0_43, .int .i64 r_210] w264 [B_16] (fun v w336 => ∃ (r_334 : Int), v = .int .i64 r_334 ∧
∃ (r_348 : Int), (((¬ (r_334 ≠ r_223))) → Calls Try.prog 27 #[.pointer r_0_43, .int .i64 r_210] w336 (Ret fun v w' => Ext w336 w' ∧ v = .int .i64 r_348)) ∧
(∀ w350 : World, Ext w336 w350 →
∃ J_368 : Int → World → Prop, ((((¬ (r_334 ≠ r_223)) ∧ (¬ (r_348 ≠ 0)))) → CallK Try.prog 26 #[.pointer r_0_43, .int .i64 r_210, .int .i64 r_236, .int .i64 r_247] w350 [B_16] (fun v w366 => ∃ r_364 : Int, v = .int .i64 r_364 ∧ J_368 r_364 w366)) ∧
((¬ (((¬ (r_334 ≠ r_223)) ∧ (¬ (r_348 ≠ 0))))) → ∃ r_364 : Int, J_368 r_364 w350) ∧
(∀ (r_364 : Int) (w366 : World), J_368 r_364 w366 →
((((r_334 ≠ r_223) ∨ (r_348 ≠ 0)) ∨ (r_364 ≠ 0)) →
R (.bool false) w366) ∧
((((¬ (r_334 ≠ r_223)) ∧ (¬ (r_348 ≠ 0))) ∧ (¬ (r_364 ≠ 0))) →
J_327 w366))))) ∧
((¬ (r_262 = 0)) →
J_327 w264)) ∧
(∀ (w326 : World), J_327 w326 →
CallK Try.prog 15 #[.pointer r_0_43, .int .i64 r_210, .string (Bs ([122, 122] : Str)), .string (Bs ([118] : Str))] w326 [B_16] (fun v w392 => ∃ (r_390 : Int), v = .int .i64 r_390 ∧
∃ J_486 : World → Prop,
(((r_390 = 0) →
CallK Try.prog 34 #[.pointer r_0_43, .int .i64 r_210] w392 [B_16] (fun v w496 => ∃ (r_0_493_Kind : Int) (r_0_493_Name : Str) (r_0_493_Text : Str) (r_0_493_Attrs : Sl) (r_0_493_Kids : Sl) (r_1_494 : Bool), v = .tuple #[.agg #[.int .i64 r_0_493_Kind, .string (Bs r_0_493_Name), .string (Bs r_0_493_Text), Sl.v r_0_493_Attrs, Sl.v r_0_493_Kids], .bool r_1_494] ∧
∀ (w516 : World) (B_506 : Nat), New w496 B_506 w516 → Chg [] w496 w516 →
CallK Try.prog 35 #[.agg #[.int .i64 r_0_493_Kind, .string (Bs r_0_493_Name), .string (Bs r_0_493_Text), Sl.v r_0_493_Attrs, Sl.v r_0_493_Kids], .string (Bs ([122, 122] : Str))] w516 [B_16, B_506] (fun v w531 => ∃ (r_0_528 : Str) (r_1_529 : Bool), v = .tuple #[.string (Bs r_0_528), .bool r_1_529] ∧
∃ J_558 : Int → World → Prop, ((((r_1_529 = true) ∧ (¬ (r_0_528 ≠ ([118] : Str))))) → CallK Try.prog 29 #[.pointer r_0_43, .int .i64 r_210, .string (Bs ([122, 122] : Str))] w531 [B_16] (fun v w556 => ∃ r_554 : Int, v = .int .i64 r_554 ∧ J_558 r_554 w556)) ∧
((¬ (((r_1_529 = true) ∧ (¬ (r_0_528 ≠ ([118] : Str)))))) → ∃ r_554 : Int, J_558 r_554 w531) ∧
(∀ (r_554 : Int) (w556 : World), J_558 r_554 w556 →
((((r_1_529 = false) ∨ (r_0_528 ≠ ([118] : Str))) ∨ (r_554 ≠ 0)) →
R (.bool false) w556) ∧
((((r_1_529 = true) ∧ (¬ (r_0_528 ≠ ([118] : Str)))) ∧ (¬ (r_554 ≠ 0))) →
J_486 w556))))) ∧
((¬ (r_390 = 0)) →
J_486 w392)) ∧
(∀ (w485 : World), J_486 w485 →
∀ (w578 : World), Chg [] w485 w578 →
∃ V_585 : Int → Str → Str → Sl → Sl → World → Prop, (∀ r_584_Kind : Int, ∀ r_584_Name : Str, ∀ r_584_Text : Str, ∀ r_584_Attrs : Sl, ∀ r_584_Kids : Sl, ∀ w' w'' : World, Ext w' w'' → V_585 r_584_Kind r_584_Name r_584_Text r_584_Attrs r_584_Kids w' → V_585 r_584_Kind r_584_Name r_584_Text r_584_Attrs r_584_Kids w'') ∧
(∀ w' : World, Ext w578 w' → Calls Try.prog 18 #[.pointer r_0_43] w' (Ret fun v w'' => Ext w' w'' ∧ ∃ r_584_Kind : Int, ∃ r_584_Name : Str, ∃ r_584_Text : Str, ∃ r_584_Attrs : Sl, ∃ r_584_Kids : Sl, v = .agg #[.int .i64 r_584_Kind, .string (Bs r_584_Name), .string (Bs r_584_Text), Sl.v r_584_Attrs, Sl.v r_584_Kids] ∧ V_585 r_584_Kind r_584_Name r_584_Text r_584_Attrs r_584_Kids w'')) ∧
∃ (r_592 : Bool), (∀ r_584_Kind : Int, ∀ r_584_Name : Str, ∀ r_584_Text : Str, ∀ r_584_Attrs : Sl, ∀ r_584_Kids : Sl, ∀ w' : World, Ext w578 w' → V_585 r_584_Kind r_584_Name r_584_Text r_584_Attrs r_584_Kids w' → Calls Try.prog 24 #[.agg #[.int .i64 r_584_Kind, .string (Bs r_584_Name), .string (Bs r_584_Text), Sl.v r_584_Attrs, Sl.v r_584_Kids], .agg #[.int .i64 r_8_Kind, .string (Bs r_8_Name), .string (Bs r_8_Text), Sl.v r_8_Attrs, Sl.v r_8_Kids]] w' (Ret fun v w'' => Ext w' w'' ∧ v = .bool r_592)) ∧
∃ (r_597 : Bool), (((r_592 = true)) → ∀ w' : World, Ext w578 w' → Calls Try.prog 19 #[] w' (Ret fun v w'' => Ext w' w'' ∧ v = .bool r_597)) ∧
∀ (w604 : World), Chg [] w578 w604 →
R (.bool (r_592 && r_597)) w604))))))))))))))))
set_option maxHeartbeats 1000000 in
set_option maxRecDepth 10000 in
theorem law06_DomBack.ok (a_1 : Sl) (at_2 : Int) (to_3 : Int) (place_4 : Int) {R : Value → World → Prop} {w : World} (ht0 : law06_DomBack.vc a_1 at_2 to_3 place_4 R w) : Calls Try.prog 7 #[Sl.v a_1, .int .i64 at_2, .int .i64 to_3, .int .i64 place_4] w (Ret R) := by
  refine enter [Sl.v a_1, .int .i64 at_2, .int .i64 to_3, .int .i64 place_4] Try.func7 rfl Try.ntmps7 rfl ?_
  intro a0 hA0
  unfold law06_DomBack.vc at ht0
  refine wp_seq ?_
  refine wp_region_lit ?_
  refine sq (opk_val hA0 rfl (r_assign rfl) fun a5 hA5 _ => ?_)
  refine sq_end ?_
  have hA6 := hA5.keep [(0, Sl.v a_1), (1, .int .i64 at_2), (2, .int .i64 to_3), (3, .int .i64 place_4)] ⟨rfl, rfl, rfl, rfl, trivial⟩
  refine then_normal ?_
  refine wp_seq ?_
  refine wp_region_lit ?_
  refine sq (opk_val hA6 rfl (r_move (hA6.get rfl)) fun a7 hA7 _ => ?_)
  refine sq (opk_call hA7 rfl (r_call (args := #[Sl.v a_1]) Try.func20 (by decide) rfl (map_arr (ml_cons (hA7.get rfl) ml_nil)) rfl) ht0 fun a9 v15 w10 hA9 _ hn12 hz13 hK14 => ?_)
  obtain ⟨r_8_Kind, r_8_Name, r_8_Text, r_8_Attrs, r_8_Kids, rfl, ht11⟩ := hK14
  refine sq (opk_new (fun B => .pointer (some ⟨B, 0, none⟩)) hA9 rfl (r_alloc (cs := [.int .i64 0, .string (Bs ([] : Str)), .string (Bs ([] : Str)), Sl.v Sl.nil, Sl.v Sl.nil]) ti_29 rfl) fun a18 w17 B_16 hE19 hN20 hB21 hA18 _ => ?_)
  have hN22 : New w10 B_16 w17 := hN20
  have hC23 : Chg [] w10 w17 := hE19
  refine sq (opk_store hA18 hB21 (r_store (vs := [.int .i64 r_8_Kind, .string (Bs r_8_Name), .string (Bs r_8_Text), Sl.v r_8_Attrs, Sl.v r_8_Kids]) (hA18.get rfl) (hA18.get rfl) rfl ti_29 hB21 rfl (ones_all [.int .i64 r_8_Kind, .string (Bs r_8_Name), .string (Bs r_8_Text), Sl.v r_8_Attrs, Sl.v r_8_Kids] rfl)) fun a25 w24 hS26 hB27 hA25 => ?_)
  have hB28 : Box w24 B_16 29 [.int .i64 r_8_Kind, .string (Bs r_8_Name), .string (Bs r_8_Text), Sl.v r_8_Attrs, Sl.v r_8_Kids] := hB27
  have hC29 := hC23.storeNew hN22 hS26
  have hN30 := hN22.up hS26.size
  refine sq_end ?_
  have hA31 := hA25.keep [(1, .int .i64 at_2), (2, .int .i64 to_3), (3, .int .i64 place_4), (9, .pointer (some (⟨B_16, 0, none⟩ : Addr)))] ⟨rfl, rfl, rfl, rfl, trivial⟩
  refine then_normal ?_
  refine wp_seq ?_
  refine wp_region_lit ?_
  refine sq (opk_val hA31 rfl (r_loadN (cs := [.int .i64 r_8_Kind, .string (Bs r_8_Name), .string (Bs r_8_Text), Sl.v r_8_Attrs, Sl.v r_8_Kids]) Try.underlying29 rfl ti_29 (hA31.get rfl) (hB28.part 0 _ rfl)) fun a32 hA32 _ => ?_)
  have ht33 := ht11 w24 B_16 hN30  hC29
  refine sq (opk_call hA32 rfl (r_call (args := #[.agg #[.int .i64 r_8_Kind, .string (Bs r_8_Name), .string (Bs r_8_Text), Sl.v r_8_Attrs, Sl.v r_8_Kids]]) Try.func25 (by decide) rfl (map_arr (ml_cons (hA32.get rfl) ml_nil)) rfl) ht33 fun a35 v41 w36 hA35 _ hn38 hz39 hK40 => ?_)
  obtain ⟨r_34_Kind, r_34_Name, r_34_Text, r_34_Attrs, r_34_Kids, rfl, ht37⟩ := hK40
  have hB42 := hB28.kept hn38 (.head _)
  refine sq (opk_call hA35 rfl (r_call (args := #[.agg #[.int .i64 r_34_Kind, .string (Bs r_34_Name), .string (Bs r_34_Text), Sl.v r_34_Attrs, Sl.v r_34_Kids]]) Try.func13 (by decide) rfl (map_arr (ml_cons (hA35.get rfl) ml_nil)) rfl) ht37 fun a45 v51 w46 hA45 _ hn48 hz49 hK50 => ?_)
  obtain ⟨r_0_43, r_1_44, rfl, ht47⟩ := hK50
  have hB52 := hB42.kept hn48 (.head _)
  refine sq (opk_val hA45 rfl (r_move (hA45.get rfl)) fun a53 hA53 _ => ?_)
  refine sq (opk_val hA53 rfl (r_extract (hA53.get rfl) rfl) fun a54 hA54 _ => ?_)
  refine sq (opk_val hA54 rfl (r_extract (hA54.get rfl) rfl) fun a55 hA55 _ => ?_)
  refine sq (opk_val hA55 rfl (r_assign (hA55.get rfl)) fun a56 hA56 _ => ?_)
  refine sq (opk_val hA56 rfl (r_assign (hA56.get rfl)) fun a57 hA57 _ => ?_)
  refine sq_end ?_
  have hA58 := hA57.keep [(1, .int .i64 at_2), (2, .int .i64 to_3), (3, .int .i64 place_4), (9, .pointer (some (⟨B_16, 0, none⟩ : Addr))), (10, .pointer r_0_43), (11, .int .i64 r_1_44)] ⟨rfl, rfl, rfl, rfl, rfl, rfl, trivial⟩
  refine then_normal ?_
  refine wp_seq ?_
  refine wp_seq ?_
  refine wp_region_lit ?_
  refine sq (opk_val hA58 rfl (r_move (hA58.get rfl)) fun a59 hA59 _ => ?_)
  refine sq (opk_val hA59 rfl (r_neq (hA59.get rfl) rfl) fun a60 hA60 _ => ?_)
  refine sq_end ?_
  have hA61 := hA60.keep [(1, .int .i64 at_2), (2, .int .i64 to_3), (3, .int .i64 place_4), (9, .pointer (some (⟨B_16, 0, none⟩ : Addr))), (10, .pointer r_0_43), (30, .bool (decide (r_1_44 ≠ 0)))] ⟨rfl, rfl, rfl, rfl, rfl, rfl, trivial⟩
  refine then_normal ?_
  refine wp_cond_split (hA61.get rfl) (fun hc => ?_) (fun hc => ?_)
  · have ht62 := ht47.1 (of_decide_eq_true hc)
    clear hc
    refine wp_seq ?_
    refine wp_region_lit ?_
    refine sq (opk_val hA61 rfl (r_assign rfl) fun a64 hA64 _ => ?_)
    refine sq_end ?_
    have hA65 := hA64.keep [(8, .bool false)] ⟨rfl, trivial⟩
    refine then_normal ?_
    refine wp_ret ?_
    refine then_ret ?_
    exact res_all (vs := [.bool false]) rfl hA65 ⟨res_of_tmp hA65 rfl, trivial⟩ ht62
  · have ht63 := ht47.2 (of_decide_eq_false hc)
    clear hc
    refine wp_skip ?_
    refine then_normal ?_
    refine wp_seq ?_
    refine wp_region_lit ?_
    refine sq (opk_val hA61 rfl (r_move (hA61.get rfl)) fun a66 hA66 _ => ?_)
    refine sq (opk_call hA66 rfl (r_call (args := #[.pointer r_0_43]) Try.func16 (by decide) rfl (map_arr (ml_cons (hA66.get rfl) ml_nil)) rfl) ht63 fun a68 v74 w69 hA68 _ hn71 hz72 hK73 => ?_)
    obtain ⟨r_67, rfl, ht70⟩ := hK73
    have hB75 := hB52.kept hn71 (.head _)
    refine sq (opk_val hA68 rfl (r_assign (hA68.get rfl)) fun a76 hA76 _ => ?_)
    refine sq_end ?_
    have hA77 := hA76.keep [(1, .int .i64 at_2), (2, .int .i64 to_3), (3, .int .i64 place_4), (9, .pointer (some (⟨B_16, 0, none⟩ : Addr))), (10, .pointer r_0_43), (12, .int .i64 r_67)] ⟨rfl, rfl, rfl, rfl, rfl, rfl, trivial⟩
    refine then_normal ?_
    refine wp_seq ?_
    refine wp_seq ?_
    refine draw' (by kernel_rfl) fun w78 hE79 => ?_
    have hB80 := hB75.ext hE79
    have hC81 : Chg [] w69 w78 := hE79
    have ht82 := ht70 w78    hC81
    obtain ⟨V_85, hst86, hc87, ht88⟩ := ht82
    obtain ⟨hS93, ht94⟩ := ht88
    obtain ⟨r_98, hc99, ht100⟩ := ht94
    refine par (D := [[], [], [], [2], [2, 3], [2, 3, 4], [1, 2, 3, 4, 5], [], [0, 1, 2, 3, 4, 5, 6, 7], [0, 1, 2, 3, 4, 5, 6, 7, 8], [0, 1, 2, 3, 4, 5, 6, 7, 8, 9], [0, 1, 2, 3, 4, 5, 6, 7, 8, 9, 10], [0, 1, 2, 3, 4, 5, 6, 7, 8, 9, 10, 11], [0, 1, 2, 3, 4, 5, 6, 7, 8, 9, 10], [0, 1, 2, 3, 4, 5, 6, 7, 8, 9, 10, 13], [0, 1, 2, 3, 4, 5, 6, 7, 8, 9, 10, 11, 12, 13, 14], [0, 1, 2, 3, 4, 5, 6, 7, 8, 9, 10, 11, 12, 13, 14, 15], [0, 1, 2, 3, 4, 5, 6, 7, 8, 9, 10, 11, 12, 13, 14, 15, 16], [0, 1, 2, 3, 4, 5, 6, 7, 8, 9, 10, 11, 12, 13, 14, 15, 16, 17], [0, 1, 2, 3, 4, 5, 6, 7, 8, 9, 10, 11, 12, 13, 14, 15, 16, 17, 18], [0, 1, 2, 3, 4, 5, 6, 7, 8, 9, 10, 11, 12, 13, 14, 15, 16, 17, 18, 19], [0, 1, 2, 3, 4, 5, 6, 7, 8, 9, 10, 11, 12, 13, 14, 15, 16, 17, 18, 19, 20], [0, 1, 2, 3, 4, 5, 6, 7, 8, 9, 10, 11, 12, 13, 14, 15, 16, 17, 18, 19, 20, 21], [0, 1, 2, 3, 4, 5, 6, 7, 8, 9, 10, 11, 12, 13, 14, 15, 16, 17, 18, 19, 20, 21, 22], [0, 1, 2, 3, 4, 5, 6, 7, 8, 9, 10, 11, 12, 13, 14, 15, 16, 17, 18, 19, 20, 21, 22, 23], [0, 1, 2, 3, 4, 5, 6, 7, 8, 9, 10, 11, 12, 13, 14, 15, 16, 17, 18, 19, 20, 21, 22], [0, 1, 2, 3, 4, 5, 6, 7, 8, 9, 10, 11, 12, 13, 14, 15, 16, 17, 18, 19, 20, 21, 22, 23, 24, 25], [0, 1, 2, 3, 4, 5, 6, 7, 8, 9, 10, 11, 12, 13, 14, 15, 16, 17, 18, 19, 20, 21, 22, 23, 24, 25, 26], [0, 1, 2, 3, 4, 5, 6, 7, 8, 9, 10, 11, 12, 13, 14, 15, 16, 17, 18, 19, 20, 21, 22, 23, 24, 25, 26, 27]]) (S := [0, 1, 2, 3, 4, 5, 6, 7]) (F := []) (V := VL [(0, fun v _ => v = .pointer r_0_43), (1, fun v _ => v = .int .i64 place_4), (2, fun v _ => v = .pointer r_0_43), (3, fun v w' => ∃ r_84 : Sl, V_85 r_84 w' ∧ v = Sl.v r_84), (4, fun v w' => ∃ r_84 : Sl, V_85 r_84 w' ∧ v = .int .i64 (r_84.n : Int)), (5, fun v w' => ∃ r_84 : Sl, V_85 r_84 w' ∧ v = .int .i64 ((r_84.n : Int) + 1)), (6, fun v _ => v = .int .i64 r_98), (7, fun v _ => v = .agg #[.int .i64 4, .string (Bs ([] : Str)), .string (Bs ([99] : Str)), Sl.v Sl.nil, Sl.v Sl.nil])]) hA77 (by kernel_rfl) ⟨fun _ _ _ _ h => by first | exact h | (change _ = _ at h; change _ = _; exact h), fun _ _ _ _ h => by first | exact h | (change _ = _ at h; change _ = _; exact h), fun _ _ _ _ h => by first | exact h | (change _ = _ at h; change _ = _; exact h), fun _ _ _ hE ⟨r_84, h0_, e⟩ => ⟨r_84, (hst86 r_84 _ _ hE h0_), e⟩, fun _ _ _ hE ⟨r_84, h0_, e⟩ => ⟨r_84, (hst86 r_84 _ _ hE h0_), e⟩, fun _ _ _ hE ⟨r_84, h0_, e⟩ => ⟨r_84, (hst86 r_84 _ _ hE h0_), e⟩, fun _ _ _ _ h => by first | exact h | (change _ = _ at h; change _ = _; exact h), fun _ _ _ _ h => by first | exact h | (change _ = _ at h; change _ = _; exact h), trivial⟩ ⟨?_, ?_, ?_, ?_, ?_, ?_, ?_, ?_, trivial⟩ ?_
    · intro a w hT
      have hAp := hT.ag hA77 [(10, .pointer r_0_43)] ⟨rfl, trivial⟩ (by kernel_rfl)
      exact opk_val hAp rfl (r_move (hAp.get rfl)) fun _ _ e => ⟨_, e, Chg.refl _ _, fun _ => Eq.refl _⟩
    · intro a w hT
      have hAp := hT.ag hA77 [(3, .int .i64 place_4)] ⟨rfl, trivial⟩ (by kernel_rfl)
      exact opk_val hAp rfl (r_move (hAp.get rfl)) fun _ _ e => ⟨_, e, Chg.refl _ _, fun _ => Eq.refl _⟩
    · intro a w hT
      have hAp := hT.ag hA77 [(10, .pointer r_0_43)] ⟨rfl, trivial⟩ (by kernel_rfl)
      exact opk_val hAp rfl (r_move (hAp.get rfl)) fun _ _ e => ⟨_, e, Chg.refl _ _, fun _ => Eq.refl _⟩
    · intro a w hT
      have hAp := hT.ag hA77 [] trivial (by kernel_rfl)
      have e83 : a.tmps.getD 35 undef = .pointer r_0_43 := hT.vals 2 rfl 35 rfl
      have hAp := hAp.add e83
      exact opk_callX hAp rfl (r_call (args := #[.pointer r_0_43, .int .i64 0]) Try.func21 (by decide) rfl (map_arr (ml_cons (hAp.get rfl) (ml_cons rfl ml_nil))) rfl) (hc87 w hT.chg) fun _ _ _ _ e ⟨hE, r_84, he, hV⟩ => ⟨_, e, hE, fun _ => ⟨r_84, hV, he⟩⟩
    · intro a w hT
      have hAp := hT.ag hA77 [] trivial (by kernel_rfl)
      obtain ⟨r_84, hf90, e89⟩ := hT.vals 3 rfl 36 rfl
      have hAp := hAp.add e89
      exact opk_val hAp rfl (r_len (hAp.get rfl) Try.underlying36) fun _ _ e => ⟨_, e, Chg.refl _ _, fun _ => ⟨r_84, hf90, rfl⟩⟩
    · intro a w hT
      have hAp := hT.ag hA77 [] trivial (by kernel_rfl)
      obtain ⟨r_84, hf92, e91⟩ := hT.vals 4 rfl 37 rfl
      have hAp := hAp.add e91
      exact opk_val hAp rfl (r_addI (hAp.get rfl) rfl (hS93 r_84 w hT.chg hf92)) fun _ _ e => ⟨_, e, Chg.refl _ _, fun _ => ⟨r_84, hf92, rfl⟩⟩
    · intro a w hT
      have hAp := hT.ag hA77 [] trivial (by kernel_rfl)
      have e95 : a.tmps.getD 34 undef = .int .i64 place_4 := hT.vals 1 rfl 34 rfl
      have hAp := hAp.add e95
      obtain ⟨r_84, hf97, e96⟩ := hT.vals 5 rfl 38 rfl
      have hAp := hAp.add e96
      exact opk_callX hAp rfl (r_call (args := #[.int .i64 place_4, .int .i64 ((r_84.n : Int) + 1)]) Try.func28 (by decide) rfl (map_arr (ml_cons (hAp.get rfl) (ml_cons (hAp.get rfl) ml_nil))) rfl) (hc99 r_84 w hT.chg hf97) fun _ _ _ _ e hR => ⟨_, e, hR.1, fun _ => hR.2⟩
    · intro a w hT
      have hAp := hT.ag hA77 [] trivial (by kernel_rfl)
      exact opk_val hAp rfl (r_build (vs := #[(0, .int .i64 4), (2, .string (Bs ([99] : Str)))]) (cells := #[.int .i64 4, .string (Bs ([] : Str)), .string (Bs ([99] : Str)), Sl.v Sl.nil, Sl.v Sl.nil]) (map_arr2 (ml2_cons rfl (ml2_cons rfl (ml2_nil)))) ti_29 Try.underlying29 pl_29 (by kernel_rfl)) fun _ _ e => ⟨_, e, Chg.refl _ _, fun _ => Eq.refl _⟩
    · intro a101 w102 hE103 hag104 hv105
      have hA101 := hag104 [(1, .int .i64 at_2), (2, .int .i64 to_3), (9, .pointer (some (⟨B_16, 0, none⟩ : Addr))), (10, .pointer r_0_43), (12, .int .i64 r_67)] ⟨rfl, rfl, rfl, rfl, rfl, trivial⟩ (by kernel_rfl)
      have e107 : a101.tmps.getD 33 undef = .pointer r_0_43 := hv105 0 rfl 33 rfl
      have hA108 := hA101.add e107
      have e109 : a101.tmps.getD 39 undef = .int .i64 r_98 := hv105 6 rfl 39 rfl
      have hA110 := hA108.add e109
      have e111 : a101.tmps.getD 40 undef = .agg #[.int .i64 4, .string (Bs ([] : Str)), .string (Bs ([99] : Str)), Sl.v Sl.nil, Sl.v Sl.nil] := hv105 7 rfl 40 rfl
      have hA112 := hA110.add e111
      have hB113 := hB80.ext hE103
      have hC114 : Chg [] w78 w102 := hE103
      have ht115 := ht100 w102    hC114
      refine one (D := [[], [], [], [2], [2, 3], [2, 3, 4], [1, 2, 3, 4, 5], [], [0, 1, 2, 3, 4, 5, 6, 7], [0, 1, 2, 3, 4, 5, 6, 7, 8], [0, 1, 2, 3, 4, 5, 6, 7, 8, 9], [0, 1, 2, 3, 4, 5, 6, 7, 8, 9, 10], [0, 1, 2, 3, 4, 5, 6, 7, 8, 9, 10, 11], [0, 1, 2, 3, 4, 5, 6, 7, 8, 9, 10], [0, 1, 2, 3, 4, 5, 6, 7, 8, 9, 10, 13], [0, 1, 2, 3, 4, 5, 6, 7, 8, 9, 10, 11, 12, 13, 14], [0, 1, 2, 3, 4, 5, 6, 7, 8, 9, 10, 11, 12, 13, 14, 15], [0, 1, 2, 3, 4, 5, 6, 7, 8, 9, 10, 11, 12, 13, 14, 15, 16], [0, 1, 2, 3, 4, 5, 6, 7, 8, 9, 10, 11, 12, 13, 14, 15, 16, 17], [0, 1, 2, 3, 4, 5, 6, 7, 8, 9, 10, 11, 12, 13, 14, 15, 16, 17, 18], [0, 1, 2, 3, 4, 5, 6, 7, 8, 9, 10, 11, 12, 13, 14, 15, 16, 17, 18, 19], [0, 1, 2, 3, 4, 5, 6, 7, 8, 9, 10, 11, 12, 13, 14, 15, 16, 17, 18, 19, 20], [0, 1, 2, 3, 4, 5, 6, 7, 8, 9, 10, 11, 12, 13, 14, 15, 16, 17, 18, 19, 20, 21], [0, 1, 2, 3, 4, 5, 6, 7, 8, 9, 10, 11, 12, 13, 14, 15, 16, 17, 18, 19, 20, 21, 22], [0, 1, 2, 3, 4, 5, 6, 7, 8, 9, 10, 11, 12, 13, 14, 15, 16, 17, 18, 19, 20, 21, 22, 23], [0, 1, 2, 3, 4, 5, 6, 7, 8, 9, 10, 11, 12, 13, 14, 15, 16, 17, 18, 19, 20, 21, 22], [0, 1, 2, 3, 4, 5, 6, 7, 8, 9, 10, 11, 12, 13, 14, 15, 16, 17, 18, 19, 20, 21, 22, 23, 24, 25], [0, 1, 2, 3, 4, 5, 6, 7, 8, 9, 10, 11, 12, 13, 14, 15, 16, 17, 18, 19, 20, 21, 22, 23, 24, 25, 26], [0, 1, 2, 3, 4, 5, 6, 7, 8, 9, 10, 11, 12, 13, 14, 15, 16, 17, 18, 19, 20, 21, 22, 23, 24, 25, 26, 27]]) (i := 8) rfl (by kernel_rfl) (opk_call hA112 rfl (r_call (args := #[.pointer r_0_43, .int .i64 1000, .int .i64 0, .int .i64 r_98, .agg #[.int .i64 4, .string (Bs ([] : Str)), .string (Bs ([99] : Str)), Sl.v Sl.nil, Sl.v Sl.nil]]) Try.func14 (by decide) rfl (map_arr (ml_cons (hA112.get rfl) (ml_cons rfl (ml_cons rfl (ml_cons (hA112.get rfl) (ml_cons (hA112.get rfl) ml_nil)))))) rfl) ht115 fun a117 v123 w118 hA117 _ hn120 hz121 hK122 => ?_)
      obtain ⟨r_116, rfl, ht119⟩ := hK122
      have hB124 := hB113.kept hn120 (.head _)
      obtain ⟨r_129, hc130, ht131⟩ := ht119
      obtain ⟨hS135, ht136⟩ := ht131
      refine par (D := [[], [], [], [2], [2, 3], [2, 3, 4], [1, 2, 3, 4, 5], [], [0, 1, 2, 3, 4, 5, 6, 7], [0, 1, 2, 3, 4, 5, 6, 7, 8], [0, 1, 2, 3, 4, 5, 6, 7, 8, 9], [0, 1, 2, 3, 4, 5, 6, 7, 8, 9, 10], [0, 1, 2, 3, 4, 5, 6, 7, 8, 9, 10, 11], [0, 1, 2, 3, 4, 5, 6, 7, 8, 9, 10], [0, 1, 2, 3, 4, 5, 6, 7, 8, 9, 10, 13], [0, 1, 2, 3, 4, 5, 6, 7, 8, 9, 10, 11, 12, 13, 14], [0, 1, 2, 3, 4, 5, 6, 7, 8, 9, 10, 11, 12, 13, 14, 15], [0, 1, 2, 3, 4, 5, 6, 7, 8, 9, 10, 11, 12, 13, 14, 15, 16], [0, 1, 2, 3, 4, 5, 6, 7, 8, 9, 10, 11, 12, 13, 14, 15, 16, 17], [0, 1, 2, 3, 4, 5, 6, 7, 8, 9, 10, 11, 12, 13, 14, 15, 16, 17, 18], [0, 1, 2, 3, 4, 5, 6, 7, 8, 9, 10, 11, 12, 13, 14, 15, 16, 17, 18, 19], [0, 1, 2, 3, 4, 5, 6, 7, 8, 9, 10, 11, 12, 13, 14, 15, 16, 17, 18, 19, 20], [0, 1, 2, 3, 4, 5, 6, 7, 8, 9, 10, 11, 12, 13, 14, 15, 16, 17, 18, 19, 20, 21], [0, 1, 2, 3, 4, 5, 6, 7, 8, 9, 10, 11, 12, 13, 14, 15, 16, 17, 18, 19, 20, 21, 22], [0, 1, 2, 3, 4, 5, 6, 7, 8, 9, 10, 11, 12, 13, 14, 15, 16, 17, 18, 19, 20, 21, 22, 23], [0, 1, 2, 3, 4, 5, 6, 7, 8, 9, 10, 11, 12, 13, 14, 15, 16, 17, 18, 19, 20, 21, 22], [0, 1, 2, 3, 4, 5, 6, 7, 8, 9, 10, 11, 12, 13, 14, 15, 16, 17, 18, 19, 20, 21, 22, 23, 24, 25], [0, 1, 2, 3, 4, 5, 6, 7, 8, 9, 10, 11, 12, 13, 14, 15, 16, 17, 18, 19, 20, 21, 22, 23, 24, 25, 26], [0, 1, 2, 3, 4, 5, 6, 7, 8, 9, 10, 11, 12, 13, 14, 15, 16, 17, 18, 19, 20, 21, 22, 23, 24, 25, 26, 27]]) (S := [9, 10, 11, 12, 13, 14, 15, 16, 17, 18]) (F := []) (V := VL [(9, fun v _ => v = .bool (decide (r_116 ≠ 0))), (10, fun v _ => v = .bool (decide (r_116 ≠ 0))), (11, fun v _ => v = cV (true && ((decide (r_116 ≠ 0)) == false)) (.pointer r_0_43)), (12, fun v _ => v = cV (true && ((decide (r_116 ≠ 0)) == false)) (.int .i64 r_129)), (13, fun v _ => v = cV (true && ((decide (r_116 ≠ 0)) == false)) (.int .i64 r_67)), (14, fun v _ => v = cV (true && ((decide (r_116 ≠ 0)) == false)) (.int .i64 (r_67 + 1))), (15, fun v _ => v = cV (true && ((decide (r_116 ≠ 0)) == false)) (.bool (decide (r_129 ≠ (r_67 + 1))))), (16, fun v _ => v = .bool ((decide (r_116 ≠ 0)) || (decide (r_129 ≠ (r_67 + 1))))), (17, fun v _ => v = .bool ((decide (r_116 ≠ 0)) || (decide (r_129 ≠ (r_67 + 1))))), (18, fun v _ => v = cV (true && (((decide (r_116 ≠ 0)) || (decide (r_129 ≠ (r_67 + 1)))) == false)) (.pointer r_0_43))]) hA117 (by kernel_rfl) ⟨fun _ _ _ _ h => by first | exact h | (change _ = _ at h; change _ = _; exact h), fun _ _ _ _ h => by first | exact h | (change _ = _ at h; change _ = _; exact h), fun _ _ _ _ h => by first | exact h | (change _ = _ at h; change _ = _; exact h), fun _ _ _ _ h => by first | exact h | (change _ = _ at h; change _ = _; exact h), fun _ _ _ _ h => by first | exact h | (change _ = _ at h; change _ = _; exact h), fun _ _ _ _ h => by first | exact h | (change _ = _ at h; change _ = _; exact h), fun _ _ _ _ h => by first | exact h | (change _ = _ at h; change _ = _; exact h), fun _ _ _ _ h => by first | exact h | (change _ = _ at h; change _ = _; exact h), fun _ _ _ _ h => by first | exact h | (change _ = _ at h; change _ = _; exact h), fun _ _ _ _ h => by first | exact h | (change _ = _ at h; change _ = _; exact h), trivial⟩ ⟨?_, ?_, ?_, ?_, ?_, ?_, ?_, ?_, ?_, ?_, trivial⟩ ?_
      · intro a w hT
        have hAp := hT.ag hA117 [(41, .int .i64 r_116)] ⟨rfl, trivial⟩ (by kernel_rfl)
        exact opk_val hAp rfl (r_neq (hAp.get rfl) rfl) fun _ _ e => ⟨_, e, Chg.refl _ _, fun _ => Eq.refl _⟩
      · intro a w hT
        have hAp := hT.ag hA117 [] trivial (by kernel_rfl)
        have e125 : a.tmps.getD 42 undef = .bool (decide (r_116 ≠ 0)) := hT.vals 9 rfl 42 rfl
        have hAp := hAp.add e125
        exact opk_val hAp rfl (r_move (hAp.get rfl)) fun _ _ e => ⟨_, e, Chg.refl _ _, fun _ => Eq.refl _⟩
      · intro a w hT
        have hAp := hT.ag hA117 [(10, .pointer r_0_43)] ⟨rfl, trivial⟩ (by kernel_rfl)
        have e126 : a.tmps.getD 43 undef = .bool (decide (r_116 ≠ 0)) := hT.vals 10 rfl 43 rfl
        have hAp := hAp.add e126
        exact opk_gval hAp rfl rfl (g := true) (e := (decide (r_116 ≠ 0))) rfl (fun hg => r_move (hAp.get rfl)) fun _ _ e => ⟨_, e, Chg.refl _ _, fun _ => Eq.refl _⟩
      · intro a w hT
        have hAp := hT.ag hA117 [] trivial (by kernel_rfl)
        have e127 : a.tmps.getD 43 undef = .bool (decide (r_116 ≠ 0)) := hT.vals 10 rfl 43 rfl
        have hAp := hAp.add e127
        have e128 : a.tmps.getD 44 undef = cV (true && ((decide (r_116 ≠ 0)) == false)) (.pointer r_0_43) := hT.vals 11 rfl 44 rfl
        have hAp := hAp.add e128
        exact opk_gcall hAp rfl rfl (g := true) (e := (decide (r_116 ≠ 0))) rfl (fun hg => r_call (args := #[.pointer r_0_43]) Try.func16 (by decide) rfl (map_arr (ml_cons (cv_get (hAp.get rfl) hg) ml_nil)) rfl) (fun hg => hc130 (of_decide_eq_false (g_f hg)) w hT.chg) fun _ _ _ e hE => ⟨_, e, hE, fun _ => Eq.refl _⟩
      · intro a w hT
        have hAp := hT.ag hA117 [(12, .int .i64 r_67)] ⟨rfl, trivial⟩ (by kernel_rfl)
        have e132 : a.tmps.getD 43 undef = .bool (decide (r_116 ≠ 0)) := hT.vals 10 rfl 43 rfl
        have hAp := hAp.add e132
        exact opk_gval hAp rfl rfl (g := true) (e := (decide (r_116 ≠ 0))) rfl (fun hg => r_move (hAp.get rfl)) fun _ _ e => ⟨_, e, Chg.refl _ _, fun _ => Eq.refl _⟩
      · intro a w hT
        have hAp := hT.ag hA117 [] trivial (by kernel_rfl)
        have e133 : a.tmps.getD 43 undef = .bool (decide (r_116 ≠ 0)) := hT.vals 10 rfl 43 rfl
        have hAp := hAp.add e133
        have e134 : a.tmps.getD 46 undef = cV (true && ((decide (r_116 ≠ 0)) == false)) (.int .i64 r_67) := hT.vals 13 rfl 46 rfl
        have hAp := hAp.add e134
        exact opk_gval hAp rfl rfl (g := true) (e := (decide (r_116 ≠ 0))) rfl (fun hg => r_addI (cv_get (hAp.get rfl) hg) rfl (hS135 (of_decide_eq_false (g_f hg)))) fun _ _ e => ⟨_, e, Chg.refl _ _, fun _ => Eq.refl _⟩
      · intro a w hT
        have hAp := hT.ag hA117 [] trivial (by kernel_rfl)
        have e137 : a.tmps.getD 43 undef = .bool (decide (r_116 ≠ 0)) := hT.vals 10 rfl 43 rfl
        have hAp := hAp.add e137
        have e138 : a.tmps.getD 45 undef = cV (true && ((decide (r_116 ≠ 0)) == false)) (.int .i64 r_129) := hT.vals 12 rfl 45 rfl
        have hAp := hAp.add e138
        have e139 : a.tmps.getD 47 undef = cV (true && ((decide (r_116 ≠ 0)) == false)) (.int .i64 (r_67 + 1)) := hT.vals 14 rfl 47 rfl
        have hAp := hAp.add e139
        exact opk_gval hAp rfl rfl (g := true) (e := (decide (r_116 ≠ 0))) rfl (fun hg => r_neq (cv_get (hAp.get rfl) hg) (cv_get (hAp.get rfl) hg)) fun _ _ e => ⟨_, e, Chg.refl _ _, fun _ => Eq.refl _⟩
      · intro a w hT
        have hAp := hT.ag hA117 [] trivial (by kernel_rfl)
        have e140 : a.tmps.getD 43 undef = .bool (decide (r_116 ≠ 0)) := hT.vals 10 rfl 43 rfl
        have hAp := hAp.add e140
        have e141 : a.tmps.getD 48 undef = cV (true && ((decide (r_116 ≠ 0)) == false)) (.bool (decide (r_129 ≠ (r_67 + 1)))) := hT.vals 15 rfl 48 rfl
        have hAp := hAp.add e141
        exact opk_val hAp rfl (r_pick_or (g := (true && ((decide (r_116 ≠ 0)) == false))) (hAp.get rfl) (hAp.get rfl) (fun he => g_mkf rfl he)) fun _ _ e => ⟨_, e, Chg.refl _ _, fun _ => Eq.refl _⟩
      · intro a w hT
        have hAp := hT.ag hA117 [] trivial (by kernel_rfl)
        have e142 : a.tmps.getD 49 undef = .bool ((decide (r_116 ≠ 0)) || (decide (r_129 ≠ (r_67 + 1)))) := hT.vals 16 rfl 49 rfl
        have hAp := hAp.add e142
        exact opk_val hAp rfl (r_move (hAp.get rfl)) fun _ _ e => ⟨_, e, Chg.refl _ _, fun _ => Eq.refl _⟩
      · intro a w hT
        have hAp := hT.ag hA117 [(10, .pointer r_0_43)] ⟨rfl, trivial⟩ (by kernel_rfl)
        have e143 : a.tmps.getD 50 undef = .bool ((decide (r_116 ≠ 0)) || (decide (r_129 ≠ (r_67 + 1)))) := hT.vals 17 rfl 50 rfl
        have hAp := hAp.add e143
        exact opk_gval hAp rfl rfl (g := true) (e := ((decide (r_116 ≠ 0)) || (decide (r_129 ≠ (r_67 + 1))))) rfl (fun hg => r_move (hAp.get rfl)) fun _ _ e => ⟨_, e, Chg.refl _ _, fun _ => Eq.refl _⟩
      · intro a144 w145 hE146 hag147 hv148
        have hA144 := hag147 [(1, .int .i64 at_2), (2, .int .i64 to_3), (9, .pointer (some (⟨B_16, 0, none⟩ : Addr))), (10, .pointer r_0_43), (12, .int .i64 r_67)] ⟨rfl, rfl, rfl, rfl, rfl, trivial⟩ (by kernel_rfl)
        have e150 : a144.tmps.getD 50 undef = .bool ((decide (r_116 ≠ 0)) || (decide (r_129 ≠ (r_67 + 1)))) := hv148 17 rfl 50 rfl
        have hA151 := hA144.add e150
        have e152 : a144.tmps.getD 51 undef = cV (true && (((decide (r_116 ≠ 0)) || (decide (r_129 ≠ (r_67 + 1)))) == false)) (.pointer r_0_43) := hv148 18 rfl 51 rfl
        have hA153 := hA151.add e152
        have hB154 := hB124.ext hE146
        have hC155 : Chg [] w118 w145 := hE146
        have ht156 := ht136 w145    hC155
        obtain ⟨J_161, hc162, hno163, ht160⟩ := ht156
        refine one (D := [[], [], [], [2], [2, 3], [2, 3, 4], [1, 2, 3, 4, 5], [], [0, 1, 2, 3, 4, 5, 6, 7], [0, 1, 2, 3, 4, 5, 6, 7, 8], [0, 1, 2, 3, 4, 5, 6, 7, 8, 9], [0, 1, 2, 3, 4, 5, 6, 7, 8, 9, 10], [0, 1, 2, 3, 4, 5, 6, 7, 8, 9, 10, 11], [0, 1, 2, 3, 4, 5, 6, 7, 8, 9, 10], [0, 1, 2, 3, 4, 5, 6, 7, 8, 9, 10, 13], [0, 1, 2, 3, 4, 5, 6, 7, 8, 9, 10, 11, 12, 13, 14], [0, 1, 2, 3, 4, 5, 6, 7, 8, 9, 10, 11, 12, 13, 14, 15], [0, 1, 2, 3, 4, 5, 6, 7, 8, 9, 10, 11, 12, 13, 14, 15, 16], [0, 1, 2, 3, 4, 5, 6, 7, 8, 9, 10, 11, 12, 13, 14, 15, 16, 17], [0, 1, 2, 3, 4, 5, 6, 7, 8, 9, 10, 11, 12, 13, 14, 15, 16, 17, 18], [0, 1, 2, 3, 4, 5, 6, 7, 8, 9, 10, 11, 12, 13, 14, 15, 16, 17, 18, 19], [0, 1, 2, 3, 4, 5, 6, 7, 8, 9, 10, 11, 12, 13, 14, 15, 16, 17, 18, 19, 20], [0, 1, 2, 3, 4, 5, 6, 7, 8, 9, 10, 11, 12, 13, 14, 15, 16, 17, 18, 19, 20, 21], [0, 1, 2, 3, 4, 5, 6, 7, 8, 9, 10, 11, 12, 13, 14, 15, 16, 17, 18, 19, 20, 21, 22], [0, 1, 2, 3, 4, 5, 6, 7, 8, 9, 10, 11, 12, 13, 14, 15, 16, 17, 18, 19, 20, 21, 22, 23], [0, 1, 2, 3, 4, 5, 6, 7, 8, 9, 10, 11, 12, 13, 14, 15, 16, 17, 18, 19, 20, 21, 22], [0, 1, 2, 3, 4, 5, 6, 7, 8, 9, 10, 11, 12, 13, 14, 15, 16, 17, 18, 19, 20, 21, 22, 23, 24, 25], [0, 1, 2, 3, 4, 5, 6, 7, 8, 9, 10, 11, 12, 13, 14, 15, 16, 17, 18, 19, 20, 21, 22, 23, 24, 25, 26], [0, 1, 2, 3, 4, 5, 6, 7, 8, 9, 10, 11, 12, 13, 14, 15, 16, 17, 18, 19, 20, 21, 22, 23, 24, 25, 26, 27]]) (i := 19) rfl (by kernel_rfl) (opk_gcallJ (val := fun r_157 => .int .i64 r_157) (J := J_161) hA153 rfl rfl (g := true) (e := ((decide (r_116 ≠ 0)) || (decide (r_129 ≠ (r_67 + 1))))) rfl (fun hg => r_call (args := #[.pointer r_0_43, .int .i64 1000]) Try.func22 (by decide) rfl (map_arr (ml_cons (cv_get (hA153.get rfl) hg) (ml_cons rfl ml_nil))) rfl) (fun hg => hc162 ⟨(of_decide_eq_false (b_or_f (g_f hg)).1), (of_decide_eq_false (b_or_f (g_f hg)).2)⟩) (fun hg => hno163 (fun hp => absurd ((g_mkf rfl (b_or_mkf ⟨(decide_eq_false hp.1), (decide_eq_false hp.2)⟩))) (by rw [hg]; decide))) fun a158 w159 r_157 hA158 _ hn164 hz165 hJ166 => ?_)
        have hB167 := hB154.kept hn164 (.head _)
        have ht168 := ht160 r_157 w159 hJ166
        obtain ⟨V_175, hst176, hc177, ht178⟩ := ht168
        obtain ⟨r_184, hc185, ht186⟩ := ht178
        refine par (D := [[], [], [], [2], [2, 3], [2, 3, 4], [1, 2, 3, 4, 5], [], [0, 1, 2, 3, 4, 5, 6, 7], [0, 1, 2, 3, 4, 5, 6, 7, 8], [0, 1, 2, 3, 4, 5, 6, 7, 8, 9], [0, 1, 2, 3, 4, 5, 6, 7, 8, 9, 10], [0, 1, 2, 3, 4, 5, 6, 7, 8, 9, 10, 11], [0, 1, 2, 3, 4, 5, 6, 7, 8, 9, 10], [0, 1, 2, 3, 4, 5, 6, 7, 8, 9, 10, 13], [0, 1, 2, 3, 4, 5, 6, 7, 8, 9, 10, 11, 12, 13, 14], [0, 1, 2, 3, 4, 5, 6, 7, 8, 9, 10, 11, 12, 13, 14, 15], [0, 1, 2, 3, 4, 5, 6, 7, 8, 9, 10, 11, 12, 13, 14, 15, 16], [0, 1, 2, 3, 4, 5, 6, 7, 8, 9, 10, 11, 12, 13, 14, 15, 16, 17], [0, 1, 2, 3, 4, 5, 6, 7, 8, 9, 10, 11, 12, 13, 14, 15, 16, 17, 18], [0, 1, 2, 3, 4, 5, 6, 7, 8, 9, 10, 11, 12, 13, 14, 15, 16, 17, 18, 19], [0, 1, 2, 3, 4, 5, 6, 7, 8, 9, 10, 11, 12, 13, 14, 15, 16, 17, 18, 19, 20], [0, 1, 2, 3, 4, 5, 6, 7, 8, 9, 10, 11, 12, 13, 14, 15, 16, 17, 18, 19, 20, 21], [0, 1, 2, 3, 4, 5, 6, 7, 8, 9, 10, 11, 12, 13, 14, 15, 16, 17, 18, 19, 20, 21, 22], [0, 1, 2, 3, 4, 5, 6, 7, 8, 9, 10, 11, 12, 13, 14, 15, 16, 17, 18, 19, 20, 21, 22, 23], [0, 1, 2, 3, 4, 5, 6, 7, 8, 9, 10, 11, 12, 13, 14, 15, 16, 17, 18, 19, 20, 21, 22], [0, 1, 2, 3, 4, 5, 6, 7, 8, 9, 10, 11, 12, 13, 14, 15, 16, 17, 18, 19, 20, 21, 22, 23, 24, 25], [0, 1, 2, 3, 4, 5, 6, 7, 8, 9, 10, 11, 12, 13, 14, 15, 16, 17, 18, 19, 20, 21, 22, 23, 24, 25, 26], [0, 1, 2, 3, 4, 5, 6, 7, 8, 9, 10, 11, 12, 13, 14, 15, 16, 17, 18, 19, 20, 21, 22, 23, 24, 25, 26, 27]]) (S := [20, 21, 22, 23, 24, 25, 26, 27, 28]) (F := []) (V := VL [(20, fun v _ => v = cV (true && (((decide (r_116 ≠ 0)) || (decide (r_129 ≠ (r_67 + 1)))) == false)) (.bool (decide (r_157 ≠ 0)))), (21, fun v _ => v = .bool (((decide (r_116 ≠ 0)) || (decide (r_129 ≠ (r_67 + 1)))) || (decide (r_157 ≠ 0)))), (22, fun v _ => v = .bool (((decide (r_116 ≠ 0)) || (decide (r_129 ≠ (r_67 + 1)))) || (decide (r_157 ≠ 0)))), (23, fun v _ => v = cV (true && ((((decide (r_116 ≠ 0)) || (decide (r_129 ≠ (r_67 + 1)))) || (decide (r_157 ≠ 0))) == false)) (.pointer r_0_43)), (24, fun v w' => ∃ r_174_Kind : Int, ∃ r_174_Name : Str, ∃ r_174_Text : Str, ∃ r_174_Attrs : Sl, ∃ r_174_Kids : Sl, (((((¬ (r_116 ≠ 0)) ∧ (¬ (r_129 ≠ (r_67 + 1)))) ∧ (¬ (r_157 ≠ 0)))) → V_175 r_174_Kind r_174_Name r_174_Text r_174_Attrs r_174_Kids w') ∧ v = cV (true && ((((decide (r_116 ≠ 0)) || (decide (r_129 ≠ (r_67 + 1)))) || (decide (r_157 ≠ 0))) == false)) (.agg #[.int .i64 r_174_Kind, .string (Bs r_174_Name), .string (Bs r_174_Text), Sl.v r_174_Attrs, Sl.v r_174_Kids])), (25, fun v _ => v = cV (true && ((((decide (r_116 ≠ 0)) || (decide (r_129 ≠ (r_67 + 1)))) || (decide (r_157 ≠ 0))) == false)) (.agg #[.int .i64 r_8_Kind, .string (Bs r_8_Name), .string (Bs r_8_Text), Sl.v r_8_Attrs, Sl.v r_8_Kids])), (26, fun v _ => v = cV (true && ((((decide (r_116 ≠ 0)) || (decide (r_129 ≠ (r_67 + 1)))) || (decide (r_157 ≠ 0))) == false)) (.bool r_184)), (27, fun v _ => v = cV (true && ((((decide (r_116 ≠ 0)) || (decide (r_129 ≠ (r_67 + 1)))) || (decide (r_157 ≠ 0))) == false)) (.bool (!r_184))), (28, fun v _ => v = .bool ((((decide (r_116 ≠ 0)) || (decide (r_129 ≠ (r_67 + 1)))) || (decide (r_157 ≠ 0))) || (!r_184)))]) hA158 (by kernel_rfl) ⟨fun _ _ _ _ h => by first | exact h | (change _ = _ at h; change _ = _; exact h), fun _ _ _ _ h => by first | exact h | (change _ = _ at h; change _ = _; exact h), fun _ _ _ _ h => by first | exact h | (change _ = _ at h; change _ = _; exact h), fun _ _ _ _ h => by first | exact h | (change _ = _ at h; change _ = _; exact h), fun _ _ _ hE ⟨r_174_Kind, r_174_Name, r_174_Text, r_174_Attrs, r_174_Kids, h0_, e⟩ => ⟨r_174_Kind, r_174_Name, r_174_Text, r_174_Attrs, r_174_Kids, (fun hp => hst176 r_174_Kind r_174_Name r_174_Text r_174_Attrs r_174_Kids _ _ hE (h0_ hp)), e⟩, fun _ _ _ _ h => by first | exact h | (change _ = _ at h; change _ = _; exact h), fun _ _ _ _ h => by first | exact h | (change _ = _ at h; change _ = _; exact h), fun _ _ _ _ h => by first | exact h | (change _ = _ at h; change _ = _; exact h), fun _ _ _ _ h => by first | exact h | (change _ = _ at h; change _ = _; exact h), trivial⟩ ⟨?_, ?_, ?_, ?_, ?_, ?_, ?_, ?_, ?_, trivial⟩ ?_
        · intro a w hT
          have hAp := hT.ag hA158 [(50, .bool ((decide (r_116 ≠ 0)) || (decide (r_129 ≠ (r_67 + 1))))), (52, cV (true && (((decide (r_116 ≠ 0)) || (decide (r_129 ≠ (r_67 + 1)))) == false)) (.int .i64 r_157))] ⟨rfl, rfl, trivial⟩ (by kernel_rfl)
          exact opk_gval hAp rfl rfl (g := true) (e := ((decide (r_116 ≠ 0)) || (decide (r_129 ≠ (r_67 + 1))))) rfl (fun hg => r_neq (cv_get (hAp.get rfl) hg) rfl) fun _ _ e => ⟨_, e, Chg.refl _ _, fun _ => Eq.refl _⟩
        · intro a w hT
          have hAp := hT.ag hA158 [(50, .bool ((decide (r_116 ≠ 0)) || (decide (r_129 ≠ (r_67 + 1)))))] ⟨rfl, trivial⟩ (by kernel_rfl)
          have e169 : a.tmps.getD 53 undef = cV (true && (((decide (r_116 ≠ 0)) || (decide (r_129 ≠ (r_67 + 1)))) == false)) (.bool (decide (r_157 ≠ 0))) := hT.vals 20 rfl 53 rfl
          have hAp := hAp.add e169
          exact opk_val hAp rfl (r_pick_or (g := (true && (((decide (r_116 ≠ 0)) || (decide (r_129 ≠ (r_67 + 1)))) == false))) (hAp.get rfl) (hAp.get rfl) (fun he => g_mkf rfl he)) fun _ _ e => ⟨_, e, Chg.refl _ _, fun _ => Eq.refl _⟩
        · intro a w hT
          have hAp := hT.ag hA158 [] trivial (by kernel_rfl)
          have e170 : a.tmps.getD 54 undef = .bool (((decide (r_116 ≠ 0)) || (decide (r_129 ≠ (r_67 + 1)))) || (decide (r_157 ≠ 0))) := hT.vals 21 rfl 54 rfl
          have hAp := hAp.add e170
          exact opk_val hAp rfl (r_move (hAp.get rfl)) fun _ _ e => ⟨_, e, Chg.refl _ _, fun _ => Eq.refl _⟩
        · intro a w hT
          have hAp := hT.ag hA158 [(10, .pointer r_0_43)] ⟨rfl, trivial⟩ (by kernel_rfl)
          have e171 : a.tmps.getD 55 undef = .bool (((decide (r_116 ≠ 0)) || (decide (r_129 ≠ (r_67 + 1)))) || (decide (r_157 ≠ 0))) := hT.vals 22 rfl 55 rfl
          have hAp := hAp.add e171
          exact opk_gval hAp rfl rfl (g := true) (e := (((decide (r_116 ≠ 0)) || (decide (r_129 ≠ (r_67 + 1)))) || (decide (r_157 ≠ 0)))) rfl (fun hg => r_move (hAp.get rfl)) fun _ _ e => ⟨_, e, Chg.refl _ _, fun _ => Eq.refl _⟩
        · intro a w hT
          have hAp := hT.ag hA158 [] trivial (by kernel_rfl)
          have e172 : a.tmps.getD 55 undef = .bool (((decide (r_116 ≠ 0)) || (decide (r_129 ≠ (r_67 + 1)))) || (decide (r_157 ≠ 0))) := hT.vals 22 rfl 55 rfl
          have hAp := hAp.add e172
          have e173 : a.tmps.getD 56 undef = cV (true && ((((decide (r_116 ≠ 0)) || (decide (r_129 ≠ (r_67 + 1)))) || (decide (r_157 ≠ 0))) == false)) (.pointer r_0_43) := hT.vals 23 rfl 56 rfl
          have hAp := hAp.add e173
          exact opk_gcallM hAp rfl rfl (g := true) (e := (((decide (r_116 ≠ 0)) || (decide (r_129 ≠ (r_67 + 1)))) || (decide (r_157 ≠ 0)))) rfl (fun hg => r_call (args := #[.pointer r_0_43]) Try.func18 (by decide) rfl (map_arr (ml_cons (cv_get (hAp.get rfl) hg) ml_nil)) rfl) (fun hg => hc177 ⟨⟨(of_decide_eq_false (b_or_f (b_or_f (g_f hg)).1).1), (of_decide_eq_false (b_or_f (b_or_f (g_f hg)).1).2)⟩, (of_decide_eq_false (b_or_f (g_f hg)).2)⟩ w hT.chg) fun _ _ _ _ e hE hR => ⟨_, e, hE, fun _ => by obtain ⟨⟨r_174_Kind, r_174_Name, r_174_Text, r_174_Attrs, r_174_Kids⟩, hx, hV⟩ := cvty (α := Int × Str × Str × Sl × Sl) (fun s => .agg #[.int .i64 s.1, .string (Bs s.2.1), .string (Bs s.2.2.1), Sl.v s.2.2.2.1, Sl.v s.2.2.2.2]) (fun s w => V_175 s.1 s.2.1 s.2.2.1 s.2.2.2.1 s.2.2.2.2 w) (fun hg => by obtain ⟨r_174_Kind, r_174_Name, r_174_Text, r_174_Attrs, r_174_Kids, h1, h2⟩ := hR hg; exact ⟨(r_174_Kind, r_174_Name, r_174_Text, r_174_Attrs, r_174_Kids), h1, h2⟩); exact ⟨r_174_Kind, r_174_Name, r_174_Text, r_174_Attrs, r_174_Kids, fun hp => hV (g_mkf rfl (b_or_mkf ⟨(b_or_mkf ⟨(decide_eq_false hp.1.1), (decide_eq_false hp.1.2)⟩), (decide_eq_false hp.2)⟩)), hx⟩⟩
        · intro a w hT
          have hAp := hT.ag hA158 [(9, .pointer (some (⟨B_16, 0, none⟩ : Addr)))] ⟨rfl, trivial⟩ (by kernel_rfl)
          have e179 : a.tmps.getD 55 undef = .bool (((decide (r_116 ≠ 0)) || (decide (r_129 ≠ (r_67 + 1)))) || (decide (r_157 ≠ 0))) := hT.vals 22 rfl 55 rfl
          have hAp := hAp.add e179
          exact opk_gval hAp rfl rfl (g := true) (e := (((decide (r_116 ≠ 0)) || (decide (r_129 ≠ (r_67 + 1)))) || (decide (r_157 ≠ 0)))) rfl (fun hg => r_loadN (cs := [.int .i64 r_8_Kind, .string (Bs r_8_Name), .string (Bs r_8_Text), Sl.v r_8_Attrs, Sl.v r_8_Kids]) Try.underlying29 rfl ti_29 (hAp.get rfl) ((hB167.ext hT.chg).part 0 _ rfl)) fun _ _ e => ⟨_, e, Chg.refl _ _, fun _ => Eq.refl _⟩
        · intro a w hT
          have hAp := hT.ag hA158 [] trivial (by kernel_rfl)
          have e180 : a.tmps.getD 55 undef = .bool (((decide (r_116 ≠ 0)) || (decide (r_129 ≠ (r_67 + 1)))) || (decide (r_157 ≠ 0))) := hT.vals 22 rfl 55 rfl
          have hAp := hAp.add e180
          obtain ⟨r_174_Kind, r_174_Name, r_174_Text, r_174_Attrs, r_174_Kids, hf182, e181⟩ := hT.vals 24 rfl 57 rfl
          have hAp := hAp.add e181
          have e183 : a.tmps.getD 58 undef = cV (true && ((((decide (r_116 ≠ 0)) || (decide (r_129 ≠ (r_67 + 1)))) || (decide (r_157 ≠ 0))) == false)) (.agg #[.int .i64 r_8_Kind, .string (Bs r_8_Name), .string (Bs r_8_Text), Sl.v r_8_Attrs, Sl.v r_8_Kids]) := hT.vals 25 rfl 58 rfl
          have hAp := hAp.add e183
          exact opk_gcall hAp rfl rfl (g := true) (e := (((decide (r_116 ≠ 0)) || (decide (r_129 ≠ (r_67 + 1)))) || (decide (r_157 ≠ 0)))) rfl (fun hg => r_call (args := #[.agg #[.int .i64 r_174_Kind, .string (Bs r_174_Name), .string (Bs r_174_Text), Sl.v r_174_Attrs, Sl.v r_174_Kids], .agg #[.int .i64 r_8_Kind, .string (Bs r_8_Name), .string (Bs r_8_Text), Sl.v r_8_Attrs, Sl.v r_8_Kids]]) Try.func24 (by decide) rfl (map_arr (ml_cons (cv_get (hAp.get rfl) hg) (ml_cons (cv_get (hAp.get rfl) hg) ml_nil))) rfl) (fun hg => hc185 ⟨⟨(of_decide_eq_false (b_or_f (b_or_f (g_f hg)).1).1), (of_decide_eq_false (b_or_f (b_or_f (g_f hg)).1).2)⟩, (of_decide_eq_false (b_or_f (g_f hg)).2)⟩ r_174_Kind r_174_Name r_174_Text r_174_Attrs r_174_Kids w hT.chg hf182) fun _ _ _ e hE => ⟨_, e, hE, fun _ => Eq.refl _⟩
        · intro a w hT
          have hAp := hT.ag hA158 [] trivial (by kernel_rfl)
          have e187 : a.tmps.getD 55 undef = .bool (((decide (r_116 ≠ 0)) || (decide (r_129 ≠ (r_67 + 1)))) || (decide (r_157 ≠ 0))) := hT.vals 22 rfl 55 rfl
          have hAp := hAp.add e187
          have e188 : a.tmps.getD 59 undef = cV (true && ((((decide (r_116 ≠ 0)) || (decide (r_129 ≠ (r_67 + 1)))) || (decide (r_157 ≠ 0))) == false)) (.bool r_184) := hT.vals 26 rfl 59 rfl
          have hAp := hAp.add e188
          exact opk_gval hAp rfl rfl (g := true) (e := (((decide (r_116 ≠ 0)) || (decide (r_129 ≠ (r_67 + 1)))) || (decide (r_157 ≠ 0)))) rfl (fun hg => r_not (cv_get (hAp.get rfl) hg)) fun _ _ e => ⟨_, e, Chg.refl _ _, fun _ => Eq.refl _⟩
        · intro a w hT
          have hAp := hT.ag hA158 [] trivial (by kernel_rfl)
          have e189 : a.tmps.getD 55 undef = .bool (((decide (r_116 ≠ 0)) || (decide (r_129 ≠ (r_67 + 1)))) || (decide (r_157 ≠ 0))) := hT.vals 22 rfl 55 rfl
          have hAp := hAp.add e189
          have e190 : a.tmps.getD 60 undef = cV (true && ((((decide (r_116 ≠ 0)) || (decide (r_129 ≠ (r_67 + 1)))) || (decide (r_157 ≠ 0))) == false)) (.bool (!r_184)) := hT.vals 27 rfl 60 rfl
          have hAp := hAp.add e190
          exact opk_val hAp rfl (r_pick_or (g := (true && ((((decide (r_116 ≠ 0)) || (decide (r_129 ≠ (r_67 + 1)))) || (decide (r_157 ≠ 0))) == false))) (hAp.get rfl) (hAp.get rfl) (fun he => g_mkf rfl he)) fun _ _ e => ⟨_, e, Chg.refl _ _, fun _ => Eq.refl _⟩
        · intro a191 w192 hE193 hag194 hv195
          have hA191 := hag194 [(1, .int .i64 at_2), (2, .int .i64 to_3), (9, .pointer (some (⟨B_16, 0, none⟩ : Addr))), (10, .pointer r_0_43), (12, .int .i64 r_67)] ⟨rfl, rfl, rfl, rfl, rfl, trivial⟩ (by kernel_rfl)
          have e197 : a191.tmps.getD 61 undef = .bool ((((decide (r_116 ≠ 0)) || (decide (r_129 ≠ (r_67 + 1)))) || (decide (r_157 ≠ 0))) || (!r_184)) := hv195 28 rfl 61 rfl
          have hA198 := hA191.add e197
          have hB199 := hB167.ext hE193
          have hC200 : Chg [] w159 w192 := hE193
          refine PR_end (by kernel_rfl) ?_
          have hA201 := hA198.keep [(1, .int .i64 at_2), (2, .int .i64 to_3), (9, .pointer (some (⟨B_16, 0, none⟩ : Addr))), (10, .pointer r_0_43), (12, .int .i64 r_67), (61, .bool ((((decide (r_116 ≠ 0)) || (decide (r_129 ≠ (r_67 + 1)))) || (decide (r_157 ≠ 0))) || (!r_184)))] ⟨rfl, rfl, rfl, rfl, rfl, rfl, trivial⟩
          refine then_normal ?_
          refine wp_cond_split (hA201.get rfl) (fun hc => ?_) (fun hc => ?_)
          · have ht202 := ht186.1 ((b_or_t hc).imp (fun h => ((b_or_t h).imp (fun h => ((b_or_t h).imp (fun h => (of_decide_eq_true h)) (fun h => (of_decide_eq_true h)))) (fun h => (of_decide_eq_true h)))) (fun h => (b_not_t h)))
            clear hc
            refine wp_seq ?_
            refine wp_region_lit ?_
            refine sq (opk_val hA201 rfl (r_assign rfl) fun a204 hA204 _ => ?_)
            refine sq_end ?_
            have hA205 := hA204.keep [(8, .bool false)] ⟨rfl, trivial⟩
            refine then_normal ?_
            refine wp_ret ?_
            refine then_ret ?_
            have ht206 := ht202 w192    hC200
            exact res_all (vs := [.bool false]) rfl hA205 ⟨res_of_tmp hA205 rfl, trivial⟩ ht206
          · have ht203 := ht186.2 ⟨⟨⟨(of_decide_eq_false (b_or_f (b_or_f (b_or_f hc).1).1).1), (of_decide_eq_false (b_or_f (b_or_f (b_or_f hc).1).1).2)⟩, (of_decide_eq_false (b_or_f (b_or_f hc).1).2)⟩, (b_not_f (b_or_f hc).2)⟩
            clear hc
            refine wp_skip ?_
            refine then_normal ?_
            refine wp_seq ?_
            refine wp_region_lit ?_
            refine sq (opk_val hA201 rfl (r_move (hA201.get rfl)) fun a207 hA207 _ => ?_)
            refine sq (opk_val hA207 rfl (r_move (hA207.get rfl)) fun a208 hA208 _ => ?_)
            have ht209 := ht203 w192    hC200
            refine sq (opk_call hA208 rfl (r_call (args := #[.int .i64 at_2, .int .i64 r_67]) Try.func28 (by decide) rfl (map_arr (ml_cons (hA208.get rfl) (ml_cons (hA208.get rfl) ml_nil))) rfl) ht209 fun a211 v217 w212 hA211 _ hn214 hz215 hK216 => ?_)
            obtain ⟨r_210, rfl, ht213⟩ := hK216
            have hB218 := hB199.kept hn214 (.head _)
            refine sq (opk_val hA211 rfl (r_assign (hA211.get rfl)) fun a219 hA219 _ => ?_)
            refine sq_end ?_
            have hA220 := hA219.keep [(2, .int .i64 to_3), (9, .pointer (some (⟨B_16, 0, none⟩ : Addr))), (10, .pointer r_0_43), (12, .int .i64 r_67), (13, .int .i64 r_210)] ⟨rfl, rfl, rfl, rfl, rfl, trivial⟩
            refine then_normal ?_
            refine wp_seq ?_
            refine wp_region_lit ?_
            refine sq (opk_val hA220 rfl (r_move (hA220.get rfl)) fun a221 hA221 _ => ?_)
            refine sq (opk_val hA221 rfl (r_move (hA221.get rfl)) fun a222 hA222 _ => ?_)
            refine sq (opk_call hA222 rfl (r_call (args := #[.int .i64 to_3, .int .i64 r_67]) Try.func28 (by decide) rfl (map_arr (ml_cons (hA222.get rfl) (ml_cons (hA222.get rfl) ml_nil))) rfl) ht213 fun a224 v230 w225 hA224 _ hn227 hz228 hK229 => ?_)
            obtain ⟨r_223, rfl, ht226⟩ := hK229
            have hB231 := hB218.kept hn227 (.head _)
            refine sq (opk_val hA224 rfl (r_assign (hA224.get rfl)) fun a232 hA232 _ => ?_)
            refine sq_end ?_
            have hA233 := hA232.keep [(9, .pointer (some (⟨B_16, 0, none⟩ : Addr))), (10, .pointer r_0_43), (13, .int .i64 r_210), (14, .int .i64 r_223)] ⟨rfl, rfl, rfl, rfl, trivial⟩
            refine then_normal ?_
            refine wp_seq ?_
            refine wp_region_lit ?_
            refine sq (opk_val hA233 rfl (r_move (hA233.get rfl)) fun a234 hA234 _ => ?_)
            refine sq (opk_val hA234 rfl (r_move (hA234.get rfl)) fun a235 hA235 _ => ?_)
            refine sq (opk_call hA235 rfl (r_call (args := #[.pointer r_0_43, .int .i64 r_210]) Try.func33 (by decide) rfl (map_arr (ml_cons (hA235.get rfl) (ml_cons (hA235.get rfl) ml_nil))) rfl) ht226 fun a237 v243 w238 hA237 _ hn240 hz241 hK242 => ?_)
            obtain ⟨r_236, rfl, ht239⟩ := hK242
            have hB244 := hB231.kept hn240 (.head _)
            refine sq (opk_val hA237 rfl (r_move (hA237.get rfl)) fun a245 hA245 _ => ?_)
            refine sq (opk_val hA245 rfl (r_move (hA245.get rfl)) fun a246 hA246 _ => ?_)
            refine sq (opk_call hA246 rfl (r_call (args := #[.pointer r_0_43, .int .i64 r_210]) Try.func27 (by decide) rfl (map_arr (ml_cons (hA246.get rfl) (ml_cons (hA246.get rfl) ml_nil))) rfl) ht239 fun a248 v254 w249 hA248 _ hn251 hz252 hK253 => ?_)
            obtain ⟨r_247, rfl, ht250⟩ := hK253
            have hB255 := hB244.kept hn251 (.head _)
            refine sq (opk_val hA248 rfl (r_assign (hA248.get rfl)) fun a256 hA256 _ => ?_)
            refine sq (opk_val hA256 rfl (r_assign (hA256.get rfl)) fun a257 hA257 _ => ?_)
            refine sq_end ?_
            have hA258 := hA257.keep [(9, .pointer (some (⟨B_16, 0, none⟩ : Addr))), (10, .pointer r_0_43), (13, .int .i64 r_210), (14, .int .i64 r_223), (15, .int .i64 r_236), (16, .int .i64 r_247)] ⟨rfl, rfl, rfl, rfl, rfl, rfl, trivial⟩
            refine then_normal ?_
            refine wp_seq ?_
            refine wp_seq ?_
            refine wp_region_lit ?_
            refine sq (opk_val hA258 rfl (r_move (hA258.get rfl)) fun a259 hA259 _ => ?_)
            refine sq (opk_val hA259 rfl (r_move (hA259.get rfl)) fun a260 hA260 _ => ?_)
            refine sq (opk_val hA260 rfl (r_move (hA260.get rfl)) fun a261 hA261 _ => ?_)
            refine sq (opk_call hA261 rfl (r_call (args := #[.pointer r_0_43, .int .i64 r_210, .int .i64 r_223, .int .i64 0]) Try.func26 (by decide) rfl (map_arr (ml_cons (hA261.get rfl) (ml_cons (hA261.get rfl) (ml_cons (hA261.get rfl) (ml_cons rfl ml_nil))))) rfl) ht250 fun a263 v269 w264 hA263 _ hn266 hz267 hK268 => ?_)
            obtain ⟨r_262, rfl, ht265⟩ := hK268
            have hB270 := hB255.kept hn266 (.head _)
            refine sq (opk_val hA263 rfl (r_eql (hA263.get rfl) rfl) fun a271 hA271 _ => ?_)
            refine sq_end ?_
            have hA272 := hA271.keep [(9, .pointer (some (⟨B_16, 0, none⟩ : Addr))), (10, .pointer r_0_43), (13, .int .i64 r_210), (14, .int .i64 r_223), (15, .int .i64 r_236), (16, .int .i64 r_247), (78, .bool (decide (r_262 = 0)))] ⟨rfl, rfl, rfl, rfl, rfl, rfl, rfl, trivial⟩
            refine then_normal ?_
            obtain ⟨J_327, ht328, hr329⟩ := ht265
            refine wp_meet (fun a w => Ag 132 a [(9, .pointer (some (⟨B_16, 0, none⟩ : Addr))), (10, .pointer r_0_43), (13, .int .i64 r_210)] ∧ Box w B_16 29 [.int .i64 r_8_Kind, .string (Bs r_8_Name), .string (Bs r_8_Text), Sl.v r_8_Attrs, Sl.v r_8_Kids] ∧ J_327 w) ?_ ?_
            · refine wp_cond_split (hA272.get rfl) (fun hc => ?_) (fun hc => ?_)
              · have ht330 := ht328.1 (of_decide_eq_true hc)
                clear hc
                refine wp_seq ?_
                refine wp_region_lit ?_
                refine sq (opk_val hA272 rfl (r_move (hA272.get rfl)) fun a332 hA332 _ => ?_)
                refine sq (opk_val hA332 rfl (r_move (hA332.get rfl)) fun a333 hA333 _ => ?_)
                refine sq (opk_call hA333 rfl (r_call (args := #[.pointer r_0_43, .int .i64 r_210]) Try.func33 (by decide) rfl (map_arr (ml_cons (hA333.get rfl) (ml_cons (hA333.get rfl) ml_nil))) rfl) ht330 fun a335 v341 w336 hA335 _ hn338 hz339 hK340 => ?_)
                obtain ⟨r_334, rfl, ht337⟩ := hK340
                have hB342 := hB270.kept hn338 (.head _)
                refine sq (opk_val hA335 rfl (r_move (hA335.get rfl)) fun a343 hA343 _ => ?_)
                refine sq (opk_val hA343 rfl (r_neq (hA343.get rfl) (hA343.get rfl)) fun a344 hA344 _ => ?_)
                refine sq (opk_val hA344 rfl (r_move (hA344.get rfl)) fun a345 hA345 _ => ?_)
                refine sq (opk_gval hA345 rfl rfl (g := true) (e := (decide (r_334 ≠ r_223))) rfl (fun hg => r_move (hA345.get rfl)) fun a346 hA346 _ => ?_)
                refine sq (opk_gval hA346 rfl rfl (g := true) (e := (decide (r_334 ≠ r_223))) rfl (fun hg => r_move (hA346.get rfl)) fun a347 hA347 _ => ?_)
                obtain ⟨r_348, hc352, ht351⟩ := ht337
                refine sq (opk_gcall hA347 rfl rfl (g := true) (e := (decide (r_334 ≠ r_223))) rfl (fun hg => r_call (args := #[.pointer r_0_43, .int .i64 r_210]) Try.func27 (by decide) rfl (map_arr (ml_cons (cv_get (hA347.get rfl) hg) (ml_cons (cv_get (hA347.get rfl) hg) ml_nil))) rfl) (fun hg => hc352 (of_decide_eq_false (g_f hg))) fun a349 w350 hA349 _ hE353 => ?_)
                have hB354 := hB342.ext hE353
                have hC355 : Chg [] w336 w350 := hE353
                have ht356 := ht351 w350 hE353
                refine sq (opk_gval hA349 rfl rfl (g := true) (e := (decide (r_334 ≠ r_223))) rfl (fun hg => r_neq (cv_get (hA349.get rfl) hg) rfl) fun a357 hA357 _ => ?_)
                refine sq (opk_val hA357 rfl (r_pick_or (g := (true && ((decide (r_334 ≠ r_223)) == false))) (hA357.get rfl) (hA357.get rfl) (fun he => g_mkf rfl he)) fun a358 hA358 _ => ?_)
                refine sq (opk_val hA358 rfl (r_move (hA358.get rfl)) fun a359 hA359 _ => ?_)
                refine sq (opk_gval hA359 rfl rfl (g := true) (e := ((decide (r_334 ≠ r_223)) || (decide (r_348 ≠ 0)))) rfl (fun hg => r_move (hA359.get rfl)) fun a360 hA360 _ => ?_)
                refine sq (opk_gval hA360 rfl rfl (g := true) (e := ((decide (r_334 ≠ r_223)) || (decide (r_348 ≠ 0)))) rfl (fun hg => r_move (hA360.get rfl)) fun a361 hA361 _ => ?_)
                refine sq (opk_gval hA361 rfl rfl (g := true) (e := ((decide (r_334 ≠ r_223)) || (decide (r_348 ≠ 0)))) rfl (fun hg => r_move (hA361.get rfl)) fun a362 hA362 _ => ?_)
                refine sq (opk_gval hA362 rfl rfl (g := true) (e := ((decide (r_334 ≠ r_223)) || (decide (r_348 ≠ 0)))) rfl (fun hg => r_move (hA362.get rfl)) fun a363 hA363 _ => ?_)
                obtain ⟨J_368, hc369, hno370, ht367⟩ := ht356
                refine sq (opk_gcallJ (val := fun r_364 => .int .i64 r_364) (J := J_368) hA363 rfl rfl (g := true) (e := ((decide (r_334 ≠ r_223)) || (decide (r_348 ≠ 0)))) rfl (fun hg => r_call (args := #[.pointer r_0_43, .int .i64 r_210, .int .i64 r_236, .int .i64 r_247]) Try.func26 (by decide) rfl (map_arr (ml_cons (cv_get (hA363.get rfl) hg) (ml_cons (cv_get (hA363.get rfl) hg) (ml_cons (cv_get (hA363.get rfl) hg) (ml_cons (cv_get (hA363.get rfl) hg) ml_nil))))) rfl) (fun hg => hc369 ⟨(of_decide_eq_false (b_or_f (g_f hg)).1), (of_decide_eq_false (b_or_f (g_f hg)).2)⟩) (fun hg => hno370 (fun hp => absurd ((g_mkf rfl (b_or_mkf ⟨(decide_eq_false hp.1), (decide_eq_false hp.2)⟩))) (by rw [hg]; decide))) fun a365 w366 r_364 hA365 _ hn371 hz372 hJ373 => ?_)
                have hB374 := hB354.kept hn371 (.head _)
                have ht375 := ht367 r_364 w366 hJ373
                refine sq (opk_gval hA365 rfl rfl (g := true) (e := ((decide (r_334 ≠ r_223)) || (decide (r_348 ≠ 0)))) rfl (fun hg => r_neq (cv_get (hA365.get rfl) hg) rfl) fun a376 hA376 _ => ?_)
                refine sq (opk_val hA376 rfl (r_pick_or (g := (true && (((decide (r_334 ≠ r_223)) || (decide (r_348 ≠ 0))) == false))) (hA376.get rfl) (hA376.get rfl) (fun he => g_mkf rfl he)) fun a377 hA377 _ => ?_)
                refine sq_end ?_
                have hA378 := hA377.keep [(9, .pointer (some (⟨B_16, 0, none⟩ : Addr))), (10, .pointer r_0_43), (13, .int .i64 r_210), (97, .bool (((decide (r_334 ≠ r_223)) || (decide (r_348 ≠ 0))) || (decide (r_364 ≠ 0))))] ⟨rfl, rfl, rfl, rfl, trivial⟩
                refine then_normal ?_
                refine wp_cond_split (hA378.get rfl) (fun hc => ?_) (fun hc => ?_)
                · have ht379 := ht375.1 ((b_or_t hc).imp (fun h => ((b_or_t h).imp (fun h => (of_decide_eq_true h)) (fun h => (of_decide_eq_true h)))) (fun h => (of_decide_eq_true h)))
                  clear hc
                  refine wp_seq ?_
                  refine wp_region_lit ?_
                  refine sq (opk_val hA378 rfl (r_assign rfl) fun a381 hA381 _ => ?_)
                  refine sq_end ?_
                  have hA382 := hA381.keep [(8, .bool false)] ⟨rfl, trivial⟩
                  refine then_normal ?_
                  refine wp_ret ?_
                  refine then_ret ?_
                  refine then_ret ?_
                  exact res_all (vs := [.bool false]) rfl hA382 ⟨res_of_tmp hA382 rfl, trivial⟩ ht379
                · have ht380 := ht375.2 ⟨⟨(of_decide_eq_false (b_or_f (b_or_f hc).1).1), (of_decide_eq_false (b_or_f (b_or_f hc).1).2)⟩, (of_decide_eq_false (b_or_f hc).2)⟩
                  clear hc
                  refine wp_skip ?_
                  have hA383 := hA378.keep [(9, .pointer (some (⟨B_16, 0, none⟩ : Addr))), (10, .pointer r_0_43), (13, .int .i64 r_210)] ⟨rfl, rfl, rfl, trivial⟩
                  exact then_normal ⟨hA383, hB374, ht380⟩
              · have ht331 := ht328.2 (of_decide_eq_false hc)
                clear hc
                refine wp_skip ?_
                have hA384 := hA272.keep [(9, .pointer (some (⟨B_16, 0, none⟩ : Addr))), (10, .pointer r_0_43), (13, .int .i64 r_210)] ⟨rfl, rfl, rfl, trivial⟩
                exact then_normal ⟨hA384, hB270, ht331⟩
            · intro a385 w326 hm
              obtain ⟨hA385, hB386, hJ616⟩ := hm
              have ht387 := hr329 w326 hJ616
              refine then_normal ?_
              refine wp_seq ?_
              refine wp_seq ?_
              refine wp_region_lit ?_
              refine sq (opk_val hA385 rfl (r_move (hA385.get rfl)) fun a388 hA388 _ => ?_)
              refine sq (opk_val hA388 rfl (r_move (hA388.get rfl)) fun a389 hA389 _ => ?_)
              refine sq (opk_call hA389 rfl (r_call (args := #[.pointer r_0_43, .int .i64 r_210, .string (Bs ([122, 122] : Str)), .string (Bs ([118] : Str))]) Try.func15 (by decide) rfl (map_arr (ml_cons (hA389.get rfl) (ml_cons (hA389.get rfl) (ml_cons rfl (ml_cons rfl ml_nil))))) rfl) ht387 fun a391 v397 w392 hA391 _ hn394 hz395 hK396 => ?_)
              obtain ⟨r_390, rfl, ht393⟩ := hK396
              have hB398 := hB386.kept hn394 (.head _)
              refine sq (opk_val hA391 rfl (r_eql (hA391.get rfl) rfl) fun a399 hA399 _ => ?_)
              refine sq_end ?_
              have hA400 := hA399.keep [(9, .pointer (some (⟨B_16, 0, none⟩ : Addr))), (10, .pointer r_0_43), (13, .int .i64 r_210), (101, .bool (decide (r_390 = 0)))] ⟨rfl, rfl, rfl, rfl, trivial⟩
              refine then_normal ?_
              obtain ⟨J_486, ht487, hr488⟩ := ht393
              refine wp_meet (fun a w => Ag 132 a [(9, .pointer (some (⟨B_16, 0, none⟩ : Addr))), (10, .pointer r_0_43)] ∧ Box w B_16 29 [.int .i64 r_8_Kind, .string (Bs r_8_Name), .string (Bs r_8_Text), Sl.v r_8_Attrs, Sl.v r_8_Kids] ∧ J_486 w) ?_ ?_
              · refine wp_cond_split (hA400.get rfl) (fun hc => ?_) (fun hc => ?_)
                · have ht489 := ht487.1 (of_decide_eq_true hc)
                  clear hc
                  refine wp_seq ?_
                  refine wp_region_lit ?_
                  refine sq (opk_val hA400 rfl (r_move (hA400.get rfl)) fun a491 hA491 _ => ?_)
                  refine sq (opk_val hA491 rfl (r_move (hA491.get rfl)) fun a492 hA492 _ => ?_)
                  refine sq (opk_call hA492 rfl (r_call (args := #[.pointer r_0_43, .int .i64 r_210]) Try.func34 (by decide) rfl (map_arr (ml_cons (hA492.get rfl) (ml_cons (hA492.get rfl) ml_nil))) rfl) ht489 fun a495 v501 w496 hA495 _ hn498 hz499 hK500 => ?_)
                  obtain ⟨r_0_493_Kind, r_0_493_Name, r_0_493_Text, r_0_493_Attrs, r_0_493_Kids, r_1_494, rfl, ht497⟩ := hK500
                  have hB502 := hB398.kept hn498 (.head _)
                  refine sq (opk_val hA495 rfl (r_move (hA495.get rfl)) fun a503 hA503 _ => ?_)
                  refine sq (opk_val hA503 rfl (r_extract (hA503.get rfl) rfl) fun a504 hA504 _ => ?_)
                  refine sq (opk_val hA504 rfl (r_extract (hA504.get rfl) rfl) fun a505 hA505 _ => ?_)
                  refine sq (opk_new (fun B => .pointer (some ⟨B, 0, none⟩)) hA505 rfl (r_alloc (cs := [.int .i64 0, .string (Bs ([] : Str)), .string (Bs ([] : Str)), Sl.v Sl.nil, Sl.v Sl.nil]) ti_29 rfl) fun a508 w507 B_506 hE509 hN510 hB511 hA508 _ => ?_)
                  have hne512 : B_16 ≠ B_506 := Nat.ne_of_lt (Nat.lt_of_lt_of_le hB502.lt hN510.ge)
                  have hN513 : New w496 B_506 w507 := hN510
                  have hB514 := hB502.ext hE509
                  have hC515 : Chg [] w496 w507 := hE509
                  refine sq (opk_store hA508 hB511 (r_store (vs := [.int .i64 r_0_493_Kind, .string (Bs r_0_493_Name), .string (Bs r_0_493_Text), Sl.v r_0_493_Attrs, Sl.v r_0_493_Kids]) (hA508.get rfl) (hA508.get rfl) rfl ti_29 hB511 rfl (ones_all [.int .i64 r_0_493_Kind, .string (Bs r_0_493_Name), .string (Bs r_0_493_Text), Sl.v r_0_493_Attrs, Sl.v r_0_493_Kids] rfl)) fun a517 w516 hS518 hB519 hA517 => ?_)
                  have hB520 : Box w516 B_506 29 [.int .i64 r_0_493_Kind, .string (Bs r_0_493_Name), .string (Bs r_0_493_Text), Sl.v r_0_493_Attrs, Sl.v r_0_493_Kids] := hB519
                  have hB521 := hB514.keep hS518 (by simpa using hne512)
                  have hC522 := hC515.storeNew hN513 hS518
                  have hN523 := hN513.up hS518.size
                  refine sq (opk_val hA517 rfl (r_assign (hA517.get rfl)) fun a524 hA524 _ => ?_)
                  refine sq_end ?_
                  have hA525 := hA524.keep [(9, .pointer (some (⟨B_16, 0, none⟩ : Addr))), (10, .pointer r_0_43), (13, .int .i64 r_210), (17, .pointer (some (⟨B_506, 0, none⟩ : Addr)))] ⟨rfl, rfl, rfl, rfl, trivial⟩
                  refine then_normal ?_
                  refine wp_seq ?_
                  refine wp_region_lit ?_
                  refine sq (opk_val hA525 rfl (r_loadN (cs := [.int .i64 r_0_493_Kind, .string (Bs r_0_493_Name), .string (Bs r_0_493_Text), Sl.v r_0_493_Attrs, Sl.v r_0_493_Kids]) Try.underlying29 rfl ti_29 (hA525.get rfl) (hB520.part 0 _ rfl)) fun a526 hA526 _ => ?_)
                  have ht527 := ht497 w516 B_506 hN523  hC522
                  refine sq (opk_call hA526 rfl (r_call (args := #[.agg #[.int .i64 r_0_493_Kind, .string (Bs r_0_493_Name), .string (Bs r_0_493_Text), Sl.v r_0_493_Attrs, Sl.v r_0_493_Kids], .string (Bs ([122, 122] : Str))]) Try.func35 (by decide) rfl (map_arr (ml_cons (hA526.get rfl) (ml_cons rfl ml_nil))) rfl) ht527 fun a530 v536 w531 hA530 _ hn533 hz534 hK535 => ?_)
                  obtain ⟨r_0_528, r_1_529, rfl, ht532⟩ := hK535
                  have hB537 := hB521.kept hn533 (.head _)
                  have hB538 := hB520.kept hn533 (.tail _ (.head _))
                  refine sq (opk_val hA530 rfl (r_move (hA530.get rfl)) fun a539 hA539 _ => ?_)
                  refine sq (opk_val hA539 rfl (r_extract (hA539.get rfl) rfl) fun a540 hA540 _ => ?_)
                  refine sq (opk_val hA540 rfl (r_extract (hA540.get rfl) rfl) fun a541 hA541 _ => ?_)
                  refine sq (opk_val hA541 rfl (r_assign (hA541.get rfl)) fun a542 hA542 _ => ?_)
                  refine sq (opk_val hA542 rfl (r_assign (hA542.get rfl)) fun a543 hA543 _ => ?_)
                  refine sq_end ?_
                  have hA544 := hA543.keep [(9, .pointer (some (⟨B_16, 0, none⟩ : Addr))), (10, .pointer r_0_43), (13, .int .i64 r_210), (19, .string (Bs r_0_528)), (20, .bool r_1_529)] ⟨rfl, rfl, rfl, rfl, rfl, trivial⟩
                  refine then_normal ?_
                  refine wp_seq ?_
                  refine wp_region_lit ?_
                  refine sq (opk_val hA544 rfl (r_move (hA544.get rfl)) fun a545 hA545 _ => ?_)
                  refine sq (opk_val hA545 rfl (r_not (hA545.get rfl)) fun a546 hA546 _ => ?_)
                  refine sq (opk_val hA546 rfl (r_move (hA546.get rfl)) fun a547 hA547 _ => ?_)
                  refine sq (opk_gval hA547 rfl rfl (g := true) (e := (!r_1_529)) rfl (fun hg => r_move (hA547.get rfl)) fun a548 hA548 _ => ?_)
                  refine sq (opk_gval hA548 rfl rfl (g := true) (e := (!r_1_529)) rfl (fun hg => r_sneq (cv_get (hA548.get rfl) hg) rfl) fun a549 hA549 _ => ?_)
                  refine sq (opk_val hA549 rfl (r_pick_or (g := (true && ((!r_1_529) == false))) (hA549.get rfl) (hA549.get rfl) (fun he => g_mkf rfl he)) fun a550 hA550 _ => ?_)
                  refine sq (opk_val hA550 rfl (r_move (hA550.get rfl)) fun a551 hA551 _ => ?_)
                  refine sq (opk_gval hA551 rfl rfl (g := true) (e := ((!r_1_529) || (decide (r_0_528 ≠ ([118] : Str))))) rfl (fun hg => r_move (hA551.get rfl)) fun a552 hA552 _ => ?_)
                  refine sq (opk_gval hA552 rfl rfl (g := true) (e := ((!r_1_529) || (decide (r_0_528 ≠ ([118] : Str))))) rfl (fun hg => r_move (hA552.get rfl)) fun a553 hA553 _ => ?_)
                  obtain ⟨J_558, hc559, hno560, ht557⟩ := ht532
                  refine sq (opk_gcallJ (val := fun r_554 => .int .i64 r_554) (J := J_558) hA553 rfl rfl (g := true) (e := ((!r_1_529) || (decide (r_0_528 ≠ ([118] : Str))))) rfl (fun hg => r_call (args := #[.pointer r_0_43, .int .i64 r_210, .string (Bs ([122, 122] : Str))]) Try.func29 (by decide) rfl (map_arr (ml_cons (cv_get (hA553.get rfl) hg) (ml_cons (cv_get (hA553.get rfl) hg) (ml_cons rfl ml_nil)))) rfl) (fun hg => hc559 ⟨(b_not_f (b_or_f (g_f hg)).1), (of_decide_eq_false (b_or_f (g_f hg)).2)⟩) (fun hg => hno560 (fun hp => absurd ((g_mkf rfl (b_or_mkf ⟨(b_not_mkf hp.1), (decide_eq_false hp.2)⟩))) (by rw [hg]; decide))) fun a555 w556 r_554 hA555 _ hn561 hz562 hJ563 => ?_)
                  have hB564 := hB537.kept hn561 (.head _)
                  have ht565 := ht557 r_554 w556 hJ563
                  refine sq (opk_gval hA555 rfl rfl (g := true) (e := ((!r_1_529) || (decide (r_0_528 ≠ ([118] : Str))))) rfl (fun hg => r_neq (cv_get (hA555.get rfl) hg) rfl) fun a566 hA566 _ => ?_)
                  refine sq (opk_val hA566 rfl (r_pick_or (g := (true && (((!r_1_529) || (decide (r_0_528 ≠ ([118] : Str)))) == false))) (hA566.get rfl) (hA566.get rfl) (fun he => g_mkf rfl he)) fun a567 hA567 _ => ?_)
                  refine sq_end ?_
                  have hA568 := hA567.keep [(9, .pointer (some (⟨B_16, 0, none⟩ : Addr))), (10, .pointer r_0_43), (124, .bool (((!r_1_529) || (decide (r_0_528 ≠ ([118] : Str)))) || (decide (r_554 ≠ 0))))] ⟨rfl, rfl, rfl, trivial⟩
                  refine then_normal ?_
                  refine wp_cond_split (hA568.get rfl) (fun hc => ?_) (fun hc => ?_)
                  · have ht569 := ht565.1 ((b_or_t hc).imp (fun h => ((b_or_t h).imp (fun h => (b_not_t h)) (fun h => (of_decide_eq_true h)))) (fun h => (of_decide_eq_true h)))
                    clear hc
                    refine wp_seq ?_
                    refine wp_region_lit ?_
                    refine sq (opk_val hA568 rfl (r_assign rfl) fun a571 hA571 _ => ?_)
                    refine sq_end ?_
                    have hA572 := hA571.keep [(8, .bool false)] ⟨rfl, trivial⟩
                    refine then_normal ?_
                    refine wp_ret ?_
                    refine then_ret ?_
                    refine then_ret ?_
                    exact res_all (vs := [.bool false]) rfl hA572 ⟨res_of_tmp hA572 rfl, trivial⟩ ht569
                  · have ht570 := ht565.2 ⟨⟨(b_not_f (b_or_f (b_or_f hc).1).1), (of_decide_eq_false (b_or_f (b_or_f hc).1).2)⟩, (of_decide_eq_false (b_or_f hc).2)⟩
                    clear hc
                    refine wp_skip ?_
                    have hA573 := hA568.keep [(9, .pointer (some (⟨B_16, 0, none⟩ : Addr))), (10, .pointer r_0_43)] ⟨rfl, rfl, trivial⟩
                    exact then_normal ⟨hA573, hB564, ht570⟩
                · have ht490 := ht487.2 (of_decide_eq_false hc)
                  clear hc
                  refine wp_skip ?_
                  have hA574 := hA400.keep [(9, .pointer (some (⟨B_16, 0, none⟩ : Addr))), (10, .pointer r_0_43)] ⟨rfl, rfl, trivial⟩
                  exact then_normal ⟨hA574, hB398, ht490⟩
              · intro a575 w485 hm
                obtain ⟨hA575, hB576, hJ615⟩ := hm
                have ht577 := hr488 w485 hJ615
                refine then_normal ?_
                refine wp_seq ?_
                refine draw' (by kernel_rfl) fun w578 hE579 => ?_
                have hB580 := hB576.ext hE579
                have hC581 : Chg [] w485 w578 := hE579
                have ht582 := ht577 w578    hC581
                obtain ⟨V_585, hst586, hc587, ht588⟩ := ht582
                obtain ⟨r_592, hc593, ht594⟩ := ht588
                obtain ⟨r_597, hc598, ht599⟩ := ht594
                refine par (D := [[], [0], [], [0, 1, 2], [0, 1, 2, 3], [0, 1, 2, 3, 4], [0, 1, 2, 3, 4, 5], [0, 1, 2, 3, 4, 5, 6]]) (S := [0, 1, 2, 3, 4, 5, 6, 7]) (F := []) (V := VL [(0, fun v _ => v = .pointer r_0_43), (1, fun v w' => ∃ r_584_Kind : Int, ∃ r_584_Name : Str, ∃ r_584_Text : Str, ∃ r_584_Attrs : Sl, ∃ r_584_Kids : Sl, V_585 r_584_Kind r_584_Name r_584_Text r_584_Attrs r_584_Kids w' ∧ v = .agg #[.int .i64 r_584_Kind, .string (Bs r_584_Name), .string (Bs r_584_Text), Sl.v r_584_Attrs, Sl.v r_584_Kids]), (2, fun v _ => v = .agg #[.int .i64 r_8_Kind, .string (Bs r_8_Name), .string (Bs r_8_Text), Sl.v r_8_Attrs, Sl.v r_8_Kids]), (3, fun v _ => v = .bool r_592), (4, fun v _ => v = .bool r_592), (5, fun v _ => v = cV (true && (r_592 == true)) (.bool r_597)), (6, fun v _ => v = .bool (r_592 && r_597)), (7, fun v _ => v = .bool (r_592 && r_597))]) hA575 (by kernel_rfl) ⟨fun _ _ _ _ h => by first | exact h | (change _ = _ at h; change _ = _; exact h), fun _ _ _ hE ⟨r_584_Kind, r_584_Name, r_584_Text, r_584_Attrs, r_584_Kids, h0_, e⟩ => ⟨r_584_Kind, r_584_Name, r_584_Text, r_584_Attrs, r_584_Kids, (hst586 r_584_Kind r_584_Name r_584_Text r_584_Attrs r_584_Kids _ _ hE h0_), e⟩, fun _ _ _ _ h => by first | exact h | (change _ = _ at h; change _ = _; exact h), fun _ _ _ _ h => by first | exact h | (change _ = _ at h; change _ = _; exact h), fun _ _ _ _ h => by first | exact h | (change _ = _ at h; change _ = _; exact h), fun _ _ _ _ h => by first | exact h | (change _ = _ at h; change _ = _; exact h), fun _ _ _ _ h => by first | exact h | (change _ = _ at h; change _ = _; exact h), fun _ _ _ _ h => by first | exact h | (change _ = _ at h; change _ = _; exact h), trivial⟩ ⟨?_, ?_, ?_, ?_, ?_, ?_, ?_, ?_, trivial⟩ ?_
                · intro a w hT
                  have hAp := hT.ag hA575 [(10, .pointer r_0_43)] ⟨rfl, trivial⟩ (by kernel_rfl)
                  exact opk_val hAp rfl (r_move (hAp.get rfl)) fun _ _ e => ⟨_, e, Chg.refl _ _, fun _ => Eq.refl _⟩
                · intro a w hT
                  have hAp := hT.ag hA575 [] trivial (by kernel_rfl)
                  have e583 : a.tmps.getD 125 undef = .pointer r_0_43 := hT.vals 0 rfl 125 rfl
                  have hAp := hAp.add e583
                  exact opk_callX hAp rfl (r_call (args := #[.pointer r_0_43]) Try.func18 (by decide) rfl (map_arr (ml_cons (hAp.get rfl) ml_nil)) rfl) (hc587 w hT.chg) fun _ _ _ _ e ⟨hE, r_584_Kind, r_584_Name, r_584_Text, r_584_Attrs, r_584_Kids, he, hV⟩ => ⟨_, e, hE, fun _ => ⟨r_584_Kind, r_584_Name, r_584_Text, r_584_Attrs, r_584_Kids, hV, he⟩⟩
                · intro a w hT
                  have hAp := hT.ag hA575 [(9, .pointer (some (⟨B_16, 0, none⟩ : Addr)))] ⟨rfl, trivial⟩ (by kernel_rfl)
                  exact opk_val hAp rfl (r_loadN (cs := [.int .i64 r_8_Kind, .string (Bs r_8_Name), .string (Bs r_8_Text), Sl.v r_8_Attrs, Sl.v r_8_Kids]) Try.underlying29 rfl ti_29 (hAp.get rfl) ((hB580.ext hT.chg).part 0 _ rfl)) fun _ _ e => ⟨_, e, Chg.refl _ _, fun _ => Eq.refl _⟩
                · intro a w hT
                  have hAp := hT.ag hA575 [] trivial (by kernel_rfl)
                  obtain ⟨r_584_Kind, r_584_Name, r_584_Text, r_584_Attrs, r_584_Kids, hf590, e589⟩ := hT.vals 1 rfl 126 rfl
                  have hAp := hAp.add e589
                  have e591 : a.tmps.getD 127 undef = .agg #[.int .i64 r_8_Kind, .string (Bs r_8_Name), .string (Bs r_8_Text), Sl.v r_8_Attrs, Sl.v r_8_Kids] := hT.vals 2 rfl 127 rfl
                  have hAp := hAp.add e591
                  exact opk_callX hAp rfl (r_call (args := #[.agg #[.int .i64 r_584_Kind, .string (Bs r_584_Name), .string (Bs r_584_Text), Sl.v r_584_Attrs, Sl.v r_584_Kids], .agg #[.int .i64 r_8_Kind, .string (Bs r_8_Name), .string (Bs r_8_Text), Sl.v r_8_Attrs, Sl.v r_8_Kids]]) Try.func24 (by decide) rfl (map_arr (ml_cons (hAp.get rfl) (ml_cons (hAp.get rfl) ml_nil))) rfl) (hc593 r_584_Kind r_584_Name r_584_Text r_584_Attrs r_584_Kids w hT.chg hf590) fun _ _ _ _ e hR => ⟨_, e, hR.1, fun _ => hR.2⟩
                · intro a w hT
                  have hAp := hT.ag hA575 [] trivial (by kernel_rfl)
                  have e595 : a.tmps.getD 128 undef = .bool r_592 := hT.vals 3 rfl 128 rfl
                  have hAp := hAp.add e595
                  exact opk_val hAp rfl (r_move (hAp.get rfl)) fun _ _ e => ⟨_, e, Chg.refl _ _, fun _ => Eq.refl _⟩
                · intro a w hT
                  have hAp := hT.ag hA575 [] trivial (by kernel_rfl)
                  have e596 : a.tmps.getD 129 undef = .bool r_592 := hT.vals 4 rfl 129 rfl
                  have hAp := hAp.add e596
                  exact opk_gcall hAp rfl rfl (g := true) (e := r_592) rfl (fun hg => r_call (args := #[]) Try.func19 (by decide) rfl (map_arr ml_nil) rfl) (fun hg => hc598 (g_t hg) w hT.chg) fun _ _ _ e hE => ⟨_, e, hE, fun _ => Eq.refl _⟩
                · intro a w hT
                  have hAp := hT.ag hA575 [] trivial (by kernel_rfl)
                  have e600 : a.tmps.getD 129 undef = .bool r_592 := hT.vals 4 rfl 129 rfl
                  have hAp := hAp.add e600
                  have e601 : a.tmps.getD 130 undef = cV (true && (r_592 == true)) (.bool r_597) := hT.vals 5 rfl 130 rfl
                  have hAp := hAp.add e601
                  exact opk_val hAp rfl (r_pick_and (g := (true && (r_592 == true))) (hAp.get rfl) (hAp.get rfl) (fun he => g_mkt rfl he)) fun _ _ e => ⟨_, e, Chg.refl _ _, fun _ => Eq.refl _⟩
                · intro a w hT
                  have hAp := hT.ag hA575 [] trivial (by kernel_rfl)
                  have e602 : a.tmps.getD 131 undef = .bool (r_592 && r_597) := hT.vals 6 rfl 131 rfl
                  have hAp := hAp.add e602
                  exact opk_val hAp rfl (r_assign (hAp.get rfl)) fun _ _ e => ⟨_, e, Chg.refl _ _, fun _ => Eq.refl _⟩
                · intro a603 w604 hE605 hag606 hv607
                  have hA603 := hag606 [] trivial (by kernel_rfl)
                  have e609 : a603.tmps.getD 8 undef = .bool (r_592 && r_597) := hv607 7 rfl 8 rfl
                  have hA610 := hA603.add e609
                  have hB611 := hB580.ext hE605
                  have hC612 : Chg [] w578 w604 := hE605
                  refine PR_end (by kernel_rfl) ?_
                  have hA613 := hA610.keep [(8, .bool (r_592 && r_597))] ⟨rfl, trivial⟩
                  refine then_normal ?_
                  refine wp_ret ?_
                  have ht614 := ht599 w604    hC612
                  exact res_all (vs := [.bool (r_592 && r_597)]) rfl hA613 ⟨res_of_tmp hA613 rfl, trivial⟩ ht614

end Go.Proofs.Ytghmgfkdnolcdaa
