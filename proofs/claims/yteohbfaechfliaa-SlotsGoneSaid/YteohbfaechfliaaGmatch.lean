/-
  PRINTED BY PROGRAM: for each function its condition (vc), and that this suffices (ok).
-/
import Derived.Test.YteohbfaechfliaaGT
namespace Go.Proofs.Yteohbfaechfliaa
open Go.RowKit
set_option linter.unusedVariables false

/-- The condition of topiary/match.Check. -/
def match_Check.vc (a_1_Kind : Int) (a_1_Name : Str) (a_1_Text : Str) (a_1_Attrs : Sl) (a_1_Kids : Sl) (b_2_Kind : Int) (b_2_Name : Str) (b_2_Text : Str) (b_2_Attrs : Sl) (b_2_Kids : Sl) (l_3 : Sl) (R : Value → World → Prop) (w : World) : Prop :=
∀ (w13 : World) (B_4 : Nat) (B_12 : Nat), New w B_4 w13 → New w B_12 w13 → B_4 ≠ B_12 → Chg [] w w13 →
CallK Try.prog 60 #[.agg #[.int .i64 a_1_Kind, .string (Bs a_1_Name), .string (Bs a_1_Text), Sl.v a_1_Attrs, Sl.v a_1_Kids]] w13 [B_4, B_12] (fun v w29 => ∃ (r_27 : Bool), v = .bool r_27 ∧
∃ (r_40 : Bool), (((r_27 = true)) → Calls Try.prog 60 #[.agg #[.int .i64 b_2_Kind, .string (Bs b_2_Name), .string (Bs b_2_Text), Sl.v b_2_Attrs, Sl.v b_2_Kids]] w29 (Ret fun v w' => Ext w29 w' ∧ v = .bool r_40)) ∧
(∀ w42 : World, Ext w29 w42 →
∃ p_59 : Addr, (((((r_27 = true) ∧ (r_40 = true)) ∧ (¬ ((l_3.n : Int) = 0)))) → ((0 : Int) ≤ 0 ∧ 0 < (l_3.n : Int)) ∧  l_3.a = some p_59) ∧
∃ (x_65_A : Int) (x_65_B : Int), (((((r_27 = true) ∧ (r_40 = true)) ∧ (¬ ((l_3.n : Int) = 0)))) → Cells w42 (p_59.add (0 * 2)) [.int .i64 x_65_A, .int .i64 x_65_B]) ∧
(((((r_27 = false) ∨ (r_40 = false)) ∨ ((l_3.n : Int) = 0)) ∨ (¬ (x_65_A = 0 ∧ x_65_B = 0))) →
R (.bool false) w42) ∧
(((((r_27 = true) ∧ (r_40 = true)) ∧ (¬ ((l_3.n : Int) = 0))) ∧ (¬ (¬ (x_65_A = 0 ∧ x_65_B = 0)))) →
∀ (w76 : World), Chg [] w42 w76 →
∃ V_84 : Sl → World → Prop, (∀ r_83 : Sl, ∀ w' w'' : World, Ext w' w'' → V_84 r_83 w' → V_84 r_83 w'') ∧
(∀ w' : World, Ext w76 w' → Calls Try.prog 37 #[.agg #[.int .i64 a_1_Kind, .string (Bs a_1_Name), .string (Bs a_1_Text), Sl.v a_1_Attrs, Sl.v a_1_Kids]] w' (Ret fun v w'' => Ext w' w'' ∧ ∃ r_83 : Sl, v = Sl.v r_83 ∧ V_84 r_83 w'')) ∧
∃ V_90 : Sl → World → Prop, (∀ r_89 : Sl, ∀ w' w'' : World, Ext w' w'' → V_90 r_89 w' → V_90 r_89 w'') ∧
(∀ w' : World, Ext w76 w' → Calls Try.prog 37 #[.agg #[.int .i64 b_2_Kind, .string (Bs b_2_Name), .string (Bs b_2_Text), Sl.v b_2_Attrs, Sl.v b_2_Kids]] w' (Ret fun v w'' => Ext w' w'' ∧ ∃ r_89 : Sl, v = Sl.v r_89 ∧ V_90 r_89 w'')) ∧
∀ (w99 : World) (r_83 : Sl) (r_89 : Sl), Ext w76 w99 → V_84 r_83 w99 → V_90 r_89 w99 → 
RunK Try.prog (Instr.makeMap 107 none) w99 [] (fun v w118 => ∃ (r_124 : Option Nat), v = .map r_124 ∧
∃ (J_134 : Int → Int → World → Prop) (mu_135 : Int → Int → World → Nat),
J_134 (-1) 0 w118 ∧
(∀ (last_131 : Int) (x_132 : Int) (w133 : World), J_134 last_131 x_132 w133 →
((x_132 < (l_3.n : Int)) →
((0 : Int) ≤ x_132 ∧ x_132 < (l_3.n : Int)) ∧ ∃ p_320 : Addr, l_3.a = some p_320 ∧
∃ (x_326_A : Int) (x_326_B : Int), (Cells w133 (p_320.add (x_132.toNat * 2)) [.int .i64 x_326_A, .int .i64 x_326_B]) ∧
∀ (w345 : World) (B_329 : Nat), New w133 B_329 w345 → Chg [] w133 w345 →
∃ (r_394 : Bool), ((((((¬ (x_326_A ≤ last_131)) ∧ (¬ ((r_83.n : Int) ≤ x_326_A))) ∧ (¬ (x_326_B < 0))) ∧ (¬ ((r_89.n : Int) ≤ x_326_B)))) → ∀ w' : World, Ext w345 w' → (Instr.lookup 107 (.map r_124) (.int .i64 x_326_B) false).run Try.prog w' = .ok (.bool r_394) w') ∧
∃ p_407 : Addr, (((((((¬ (x_326_A ≤ last_131)) ∧ (¬ ((r_83.n : Int) ≤ x_326_A))) ∧ (¬ (x_326_B < 0))) ∧ (¬ ((r_89.n : Int) ≤ x_326_B))) ∧ (r_394 = false))) → ((0 : Int) ≤ x_326_A ∧ x_326_A < (r_83.n : Int)) ∧ r_83.a = some p_407) ∧
∃ (x_412_Parent : Int) (x_412_Size : Int) (x_412_Depth : Int) (x_412_Height : Int) (x_412_Place : Int) (x_412_Node_Kind : Int) (x_412_Node_Name : Str) (x_412_Node_Text : Str) (x_412_Node_Attrs : Sl) (x_412_Node_Kids : Sl), (((((((¬ (x_326_A ≤ last_131)) ∧ (¬ ((r_83.n : Int) ≤ x_326_A))) ∧ (¬ (x_326_B < 0))) ∧ (¬ ((r_89.n : Int) ≤ x_326_B))) ∧ (r_394 = false))) → Cells w345 (p_407.add (x_326_A.toNat * 10)) [.int .i64 x_412_Parent, .int .i64 x_412_Size, .int .i64 x_412_Depth, .int .i64 x_412_Height, .int .i64 x_412_Place, .int .i64 x_412_Node_Kind, .string (Bs x_412_Node_Name), .string (Bs x_412_Node_Text), Sl.v x_412_Node_Attrs, Sl.v x_412_Node_Kids]) ∧
∃ V_418 : Int → Str → World → Prop, (∀ r_417_kind : Int, ∀ r_417_name : Str, ∀ w' w'' : World, Ext w' w'' → V_418 r_417_kind r_417_name w' → V_418 r_417_kind r_417_name w'') ∧
(((((((¬ (x_326_A ≤ last_131)) ∧ (¬ ((r_83.n : Int) ≤ x_326_A))) ∧ (¬ (x_326_B < 0))) ∧ (¬ ((r_89.n : Int) ≤ x_326_B))) ∧ (r_394 = false))) → ∀ w' : World, Ext w345 w' → Calls Try.prog 61 #[.agg #[.int .i64 x_412_Parent, .int .i64 x_412_Size, .int .i64 x_412_Depth, .int .i64 x_412_Height, .int .i64 x_412_Place, .int .i64 x_412_Node_Kind, .string (Bs x_412_Node_Name), .string (Bs x_412_Node_Text), Sl.v x_412_Node_Attrs, Sl.v x_412_Node_Kids]] w' (Ret fun v w'' => Ext w' w'' ∧ ∃ r_417_kind : Int, ∃ r_417_name : Str, v = .agg #[.int .i64 r_417_kind, .string (Bs r_417_name)] ∧ V_418 r_417_kind r_417_name w'')) ∧
∃ p_429 : Addr, (((((((¬ (x_326_A ≤ last_131)) ∧ (¬ ((r_83.n : Int) ≤ x_326_A))) ∧ (¬ (x_326_B < 0))) ∧ (¬ ((r_89.n : Int) ≤ x_326_B))) ∧ (r_394 = false))) → ((0 : Int) ≤ x_326_B ∧ x_326_B < (r_89.n : Int)) ∧ r_89.a = some p_429) ∧
∃ (x_434_Parent : Int) (x_434_Size : Int) (x_434_Depth : Int) (x_434_Height : Int) (x_434_Place : Int) (x_434_Node_Kind : Int) (x_434_Node_Name : Str) (x_434_Node_Text : Str) (x_434_Node_Attrs : Sl) (x_434_Node_Kids : Sl), (((((((¬ (x_326_A ≤ last_131)) ∧ (¬ ((r_83.n : Int) ≤ x_326_A))) ∧ (¬ (x_326_B < 0))) ∧ (¬ ((r_89.n : Int) ≤ x_326_B))) ∧ (r_394 = false))) → Cells w345 (p_429.add (x_326_B.toNat * 10)) [.int .i64 x_434_Parent, .int .i64 x_434_Size, .int .i64 x_434_Depth, .int .i64 x_434_Height, .int .i64 x_434_Place, .int .i64 x_434_Node_Kind, .string (Bs x_434_Node_Name), .string (Bs x_434_Node_Text), Sl.v x_434_Node_Attrs, Sl.v x_434_Node_Kids]) ∧
∃ V_440 : Int → Str → World → Prop, (∀ r_439_kind : Int, ∀ r_439_name : Str, ∀ w' w'' : World, Ext w' w'' → V_440 r_439_kind r_439_name w' → V_440 r_439_kind r_439_name w'') ∧
(((((((¬ (x_326_A ≤ last_131)) ∧ (¬ ((r_83.n : Int) ≤ x_326_A))) ∧ (¬ (x_326_B < 0))) ∧ (¬ ((r_89.n : Int) ≤ x_326_B))) ∧ (r_394 = false))) → ∀ w' : World, Ext w345 w' → Calls Try.prog 61 #[.agg #[.int .i64 x_434_Parent, .int .i64 x_434_Size, .int .i64 x_434_Depth, .int .i64 x_434_Height, .int .i64 x_434_Place, .int .i64 x_434_Node_Kind, .string (Bs x_434_Node_Name), .string (Bs x_434_Node_Text), Sl.v x_434_Node_Attrs, Sl.v x_434_Node_Kids]] w' (Ret fun v w'' => Ext w' w'' ∧ ∃ r_439_kind : Int, ∃ r_439_name : Str, v = .agg #[.int .i64 r_439_kind, .string (Bs r_439_name)] ∧ V_440 r_439_kind r_439_name w'')) ∧
∀ (w454 : World) (r_417_kind : Int) (r_417_name : Str) (r_439_kind : Int) (r_439_name : Str), Ext w345 w454 → (((((((¬ (x_326_A ≤ last_131)) ∧ (¬ ((r_83.n : Int) ≤ x_326_A))) ∧ (¬ (x_326_B < 0))) ∧ (¬ ((r_89.n : Int) ≤ x_326_B))) ∧ (r_394 = false))) → V_418 r_417_kind r_417_name w454) → (((((((¬ (x_326_A ≤ last_131)) ∧ (¬ ((r_83.n : Int) ≤ x_326_A))) ∧ (¬ (x_326_B < 0))) ∧ (¬ ((r_89.n : Int) ≤ x_326_B))) ∧ (r_394 = false))) → V_440 r_439_kind r_439_name w454) → 
(((((((x_326_A ≤ last_131) ∨ ((r_83.n : Int) ≤ x_326_A)) ∨ (x_326_B < 0)) ∨ ((r_89.n : Int) ≤ x_326_B)) ∨ (r_394 = true)) ∨ (¬ (r_417_kind = r_439_kind ∧ r_417_name = r_439_name))) →
R (.bool false) w454) ∧
(((((((¬ (x_326_A ≤ last_131)) ∧ (¬ ((r_83.n : Int) ≤ x_326_A))) ∧ (¬ (x_326_B < 0))) ∧ (¬ ((r_89.n : Int) ≤ x_326_B))) ∧ (r_394 = false)) ∧ (¬ (¬ (r_417_kind = r_439_kind ∧ r_417_name = r_439_name)))) →
RunU Try.prog (Instr.mapUpdate 107 (.map r_124) (.int .i64 x_326_B) (.bool true)) w454 [B_329] (fun w479 =>
(I64 (x_132 + 1)) ∧
J_134 x_326_A (x_132 + 1) w479 ∧ mu_135 x_326_A (x_132 + 1) w479 < mu_135 last_131 x_132 w133))) ∧
((¬ (x_132 < (l_3.n : Int))) →
R (.bool true) w133))))))
set_option maxHeartbeats 1000000 in
set_option maxRecDepth 10000 in
theorem match_Check.ok (a_1_Kind : Int) (a_1_Name : Str) (a_1_Text : Str) (a_1_Attrs : Sl) (a_1_Kids : Sl) (b_2_Kind : Int) (b_2_Name : Str) (b_2_Text : Str) (b_2_Attrs : Sl) (b_2_Kids : Sl) (l_3 : Sl) {R : Value → World → Prop} {w : World} (ht0 : match_Check.vc a_1_Kind a_1_Name a_1_Text a_1_Attrs a_1_Kids b_2_Kind b_2_Name b_2_Text b_2_Attrs b_2_Kids l_3 R w) : Calls Try.prog 36 #[.agg #[.int .i64 a_1_Kind, .string (Bs a_1_Name), .string (Bs a_1_Text), Sl.v a_1_Attrs, Sl.v a_1_Kids], .agg #[.int .i64 b_2_Kind, .string (Bs b_2_Name), .string (Bs b_2_Text), Sl.v b_2_Attrs, Sl.v b_2_Kids], Sl.v l_3] w (Ret R) := by
  refine enter [.agg #[.int .i64 a_1_Kind, .string (Bs a_1_Name), .string (Bs a_1_Text), Sl.v a_1_Attrs, Sl.v a_1_Kids], .agg #[.int .i64 b_2_Kind, .string (Bs b_2_Name), .string (Bs b_2_Text), Sl.v b_2_Attrs, Sl.v b_2_Kids], Sl.v l_3] Try.func36 rfl Try.ntmps36 rfl ?_
  intro a0 hA0
  unfold match_Check.vc at ht0
  refine wp_seq ?_
  refine wp_region_lit ?_
  refine sq (opk_new (fun B => .pointer (some ⟨B, 0, none⟩)) hA0 rfl (r_box (cs := [.int .i64 a_1_Kind, .string (Bs a_1_Name), .string (Bs a_1_Text), Sl.v a_1_Attrs, Sl.v a_1_Kids]) (hA0.get rfl) rfl) fun a6 w5 B_4 hE7 hN8 hB9 hA6 _ => ?_)
  have hN10 : New w B_4 w5 := hN8
  have hC11 : Chg [] w w5 := hE7
  refine sq (opk_new (fun B => .pointer (some ⟨B, 0, none⟩)) hA6 rfl (r_box (cs := [.int .i64 b_2_Kind, .string (Bs b_2_Name), .string (Bs b_2_Text), Sl.v b_2_Attrs, Sl.v b_2_Kids]) (hA6.get rfl) rfl) fun a14 w13 B_12 hE15 hN16 hB17 hA14 _ => ?_)
  have hne18 : B_4 ≠ B_12 := Nat.ne_of_lt (Nat.lt_of_lt_of_le hB9.lt hN16.ge)
  have hN19 := New.of hC11 hN16
  have hB20 := hB9.ext hE15
  have hC21 := hC11.more hE15
  have hN22 := hN10.up hE15.size
  refine sq (opk_val hA14 rfl (r_assign rfl) fun a23 hA23 _ => ?_)
  refine sq_end ?_
  have hA24 := hA23.keep [(2, Sl.v l_3), (3, .pointer (some (⟨B_4, 0, none⟩ : Addr))), (4, .pointer (some (⟨B_12, 0, none⟩ : Addr)))] ⟨rfl, rfl, rfl, trivial⟩
  refine then_normal ?_
  refine wp_seq ?_
  refine wp_seq ?_
  refine wp_region_lit ?_
  refine sq (opk_val hA24 rfl (r_loadN (cs := [.int .i64 a_1_Kind, .string (Bs a_1_Name), .string (Bs a_1_Text), Sl.v a_1_Attrs, Sl.v a_1_Kids]) Try.underlying26 rfl ti_26 (hA24.get rfl) (hB20.part 0 _ rfl)) fun a25 hA25 _ => ?_)
  have ht26 := ht0 w13 B_4 B_12 hN22 hN19 hne18 hC21
  refine sq (opk_call hA25 rfl (r_call (args := #[.agg #[.int .i64 a_1_Kind, .string (Bs a_1_Name), .string (Bs a_1_Text), Sl.v a_1_Attrs, Sl.v a_1_Kids]]) Try.func60 (by decide) rfl (map_arr (ml_cons (hA25.get rfl) ml_nil)) rfl) ht26 fun a28 v34 w29 hA28 _ hn31 hz32 hK33 => ?_)
  obtain ⟨r_27, rfl, ht30⟩ := hK33
  have hB35 := hB20.kept hn31 (.head _)
  have hB36 := hB17.kept hn31 (.tail _ (.head _))
  refine sq (opk_val hA28 rfl (r_not (hA28.get rfl)) fun a37 hA37 _ => ?_)
  refine sq (opk_val hA37 rfl (r_move (hA37.get rfl)) fun a38 hA38 _ => ?_)
  refine sq (opk_gval hA38 rfl rfl (g := true) (e := (!r_27)) rfl (fun hg => r_loadN (cs := [.int .i64 b_2_Kind, .string (Bs b_2_Name), .string (Bs b_2_Text), Sl.v b_2_Attrs, Sl.v b_2_Kids]) Try.underlying26 rfl ti_26 (hA38.get rfl) (hB36.part 0 _ rfl)) fun a39 hA39 _ => ?_)
  obtain ⟨r_40, hc44, ht43⟩ := ht30
  refine sq (opk_gcall hA39 rfl rfl (g := true) (e := (!r_27)) rfl (fun hg => r_call (args := #[.agg #[.int .i64 b_2_Kind, .string (Bs b_2_Name), .string (Bs b_2_Text), Sl.v b_2_Attrs, Sl.v b_2_Kids]]) Try.func60 (by decide) rfl (map_arr (ml_cons (cv_get (hA39.get rfl) hg) ml_nil)) rfl) (fun hg => hc44 (b_not_f (g_f hg))) fun a41 w42 hA41 _ hE45 => ?_)
  have hB46 := hB35.ext hE45
  have hB47 := hB36.ext hE45
  have hC48 : Chg [] w29 w42 := hE45
  have ht49 := ht43 w42 hE45
  refine sq (opk_gval hA41 rfl rfl (g := true) (e := (!r_27)) rfl (fun hg => r_not (cv_get (hA41.get rfl) hg)) fun a50 hA50 _ => ?_)
  refine sq (opk_val hA50 rfl (r_pick_or (g := (true && ((!r_27) == false))) (hA50.get rfl) (hA50.get rfl) (fun he => g_mkf rfl he)) fun a51 hA51 _ => ?_)
  refine sq (opk_val hA51 rfl (r_move (hA51.get rfl)) fun a52 hA52 _ => ?_)
  refine sq (opk_gval hA52 rfl rfl (g := true) (e := ((!r_27) || (!r_40))) rfl (fun hg => r_move (hA52.get rfl)) fun a53 hA53 _ => ?_)
  refine sq (opk_gval hA53 rfl rfl (g := true) (e := ((!r_27) || (!r_40))) rfl (fun hg => r_len (cv_get (hA53.get rfl) hg) Try.underlying29) fun a54 hA54 _ => ?_)
  refine sq (opk_gval hA54 rfl rfl (g := true) (e := ((!r_27) || (!r_40))) rfl (fun hg => r_eql (cv_get (hA54.get rfl) hg) rfl) fun a55 hA55 _ => ?_)
  refine sq (opk_val hA55 rfl (r_pick_or (g := (true && (((!r_27) || (!r_40)) == false))) (hA55.get rfl) (hA55.get rfl) (fun he => g_mkf rfl he)) fun a56 hA56 _ => ?_)
  refine sq (opk_val hA56 rfl (r_move (hA56.get rfl)) fun a57 hA57 _ => ?_)
  refine sq (opk_gval hA57 rfl rfl (g := true) (e := (((!r_27) || (!r_40)) || (decide ((l_3.n : Int) = 0)))) rfl (fun hg => r_move (hA57.get rfl)) fun a58 hA58 _ => ?_)
  obtain ⟨p_59, hp61, ht62⟩ := ht49
  refine sq (opk_gval hA58 rfl rfl (g := true) (e := (((!r_27) || (!r_40)) || (decide ((l_3.n : Int) = 0)))) rfl (fun hg => r_indexAddr (cv_get (hA58.get rfl) hg) rfl Try.underlying29 ti_40 (hp61 ⟨⟨(b_not_f (b_or_f (b_or_f (g_f hg)).1).1), (b_not_f (b_or_f (b_or_f (g_f hg)).1).2)⟩, (of_decide_eq_false (b_or_f (g_f hg)).2)⟩).1 (hp61 ⟨⟨(b_not_f (b_or_f (b_or_f (g_f hg)).1).1), (b_not_f (b_or_f (b_or_f (g_f hg)).1).2)⟩, (of_decide_eq_false (b_or_f (g_f hg)).2)⟩).2) fun a63 hA63 _ => ?_)
  obtain ⟨x_65_A, x_65_B, hx66, ht67⟩ := ht62
  refine sq (opk_gval hA63 rfl rfl (g := true) (e := (((!r_27) || (!r_40)) || (decide ((l_3.n : Int) = 0)))) rfl (fun hg => r_loadN Try.underlying40 rfl ti_40 (cv_get (hA63.get rfl) hg) (hx66 ⟨⟨(b_not_f (b_or_f (b_or_f (g_f hg)).1).1), (b_not_f (b_or_f (b_or_f (g_f hg)).1).2)⟩, (of_decide_eq_false (b_or_f (g_f hg)).2)⟩)) fun a64 hA64 _ => ?_)
  refine sq (opk_gval hA64 rfl rfl (g := true) (e := (((!r_27) || (!r_40)) || (decide ((l_3.n : Int) = 0)))) rfl (fun hg => r_build (vs := #[]) (cells := #[.int .i64 0, .int .i64 0]) (map_arr2 ml2_nil) ti_40 Try.underlying40 pl_40 (by kernel_rfl)) fun a68 hA68 _ => ?_)
  refine sq (opk_gval hA68 rfl rfl (g := true) (e := (((!r_27) || (!r_40)) || (decide ((l_3.n : Int) = 0)))) rfl (fun hg => r_aneqd (cv_get (hA68.get rfl) hg) (cv_get (hA68.get rfl) hg) (eq_40 _ _ _ _)) fun a69 hA69 _ => ?_)
  refine sq (opk_val hA69 rfl (r_pick_or (g := (true && ((((!r_27) || (!r_40)) || (decide ((l_3.n : Int) = 0))) == false))) (hA69.get rfl) (hA69.get rfl) (fun he => g_mkf rfl he)) fun a70 hA70 _ => ?_)
  refine sq_end ?_
  have hA71 := hA70.keep [(2, Sl.v l_3), (3, .pointer (some (⟨B_4, 0, none⟩ : Addr))), (4, .pointer (some (⟨B_12, 0, none⟩ : Addr))), (32, .bool ((((!r_27) || (!r_40)) || (decide ((l_3.n : Int) = 0))) || (decide (¬ (x_65_A = 0 ∧ x_65_B = 0)))))] ⟨rfl, rfl, rfl, rfl, trivial⟩
  refine then_normal ?_
  refine wp_cond_split (hA71.get rfl) (fun hc => ?_) (fun hc => ?_)
  · have ht72 := ht67.1 ((b_or_t hc).imp (fun h => ((b_or_t h).imp (fun h => ((b_or_t h).imp (fun h => (b_not_t h)) (fun h => (b_not_t h)))) (fun h => (of_decide_eq_true h)))) (fun h => (of_decide_eq_true h)))
    clear hc
    refine wp_seq ?_
    refine wp_region_lit ?_
    refine sq (opk_val hA71 rfl (r_assign rfl) fun a74 hA74 _ => ?_)
    refine sq_end ?_
    have hA75 := hA74.keep [(6, .bool false)] ⟨rfl, trivial⟩
    refine then_normal ?_
    refine wp_ret ?_
    refine then_ret ?_
    exact res_all (vs := [.bool false]) rfl hA75 ⟨res_of_tmp hA75 rfl, trivial⟩ ht72
  · have ht73 := ht67.2 ⟨⟨⟨(b_not_f (b_or_f (b_or_f (b_or_f hc).1).1).1), (b_not_f (b_or_f (b_or_f (b_or_f hc).1).1).2)⟩, (of_decide_eq_false (b_or_f (b_or_f hc).1).2)⟩, (of_decide_eq_false (b_or_f hc).2)⟩
    clear hc
    refine wp_skip ?_
    refine then_normal ?_
    refine wp_seq ?_
    refine draw' (by kernel_rfl) fun w76 hE77 => ?_
    have hB78 := hB46.ext hE77
    have hB79 := hB47.ext hE77
    have hC80 : Chg [] w42 w76 := hE77
    have ht81 := ht73 w76    hC80
    obtain ⟨V_84, hst85, hc86, ht87⟩ := ht81
    obtain ⟨V_90, hst91, hc92, ht93⟩ := ht87
    refine par (D := [[], [0], [], [0, 1, 2], [0, 1, 2, 3], [0, 1, 2, 3, 4]]) (S := [0, 1, 2, 3, 4, 5]) (F := []) (V := VL [(0, fun v _ => v = .agg #[.int .i64 a_1_Kind, .string (Bs a_1_Name), .string (Bs a_1_Text), Sl.v a_1_Attrs, Sl.v a_1_Kids]), (1, fun v w' => ∃ r_83 : Sl, V_84 r_83 w' ∧ v = Sl.v r_83), (2, fun v _ => v = .agg #[.int .i64 b_2_Kind, .string (Bs b_2_Name), .string (Bs b_2_Text), Sl.v b_2_Attrs, Sl.v b_2_Kids]), (3, fun v w' => ∃ r_89 : Sl, V_90 r_89 w' ∧ v = Sl.v r_89), (4, fun v w' => ∃ r_83 : Sl, V_84 r_83 w' ∧ v = Sl.v r_83), (5, fun v w' => ∃ r_89 : Sl, V_90 r_89 w' ∧ v = Sl.v r_89)]) hA71 (by kernel_rfl) ⟨fun _ _ _ _ h => by first | exact h | (change _ = _ at h; change _ = _; exact h), fun _ _ _ hE ⟨r_83, h0_, e⟩ => ⟨r_83, (hst85 r_83 _ _ hE h0_), e⟩, fun _ _ _ _ h => by first | exact h | (change _ = _ at h; change _ = _; exact h), fun _ _ _ hE ⟨r_89, h0_, e⟩ => ⟨r_89, (hst91 r_89 _ _ hE h0_), e⟩, fun _ _ _ hE ⟨r_83, h0_, e⟩ => ⟨r_83, (hst85 r_83 _ _ hE h0_), e⟩, fun _ _ _ hE ⟨r_89, h0_, e⟩ => ⟨r_89, (hst91 r_89 _ _ hE h0_), e⟩, trivial⟩ ⟨?_, ?_, ?_, ?_, ?_, ?_, trivial⟩ ?_
    · intro a w hT
      have hAp := hT.ag hA71 [(3, .pointer (some (⟨B_4, 0, none⟩ : Addr)))] ⟨rfl, trivial⟩ (by kernel_rfl)
      exact opk_val hAp rfl (r_loadN (cs := [.int .i64 a_1_Kind, .string (Bs a_1_Name), .string (Bs a_1_Text), Sl.v a_1_Attrs, Sl.v a_1_Kids]) Try.underlying26 rfl ti_26 (hAp.get rfl) ((hB78.ext hT.chg).part 0 _ rfl)) fun _ _ e => ⟨_, e, Chg.refl _ _, fun _ => Eq.refl _⟩
    · intro a w hT
      have hAp := hT.ag hA71 [] trivial (by kernel_rfl)
      have e82 : a.tmps.getD 33 undef = .agg #[.int .i64 a_1_Kind, .string (Bs a_1_Name), .string (Bs a_1_Text), Sl.v a_1_Attrs, Sl.v a_1_Kids] := hT.vals 0 rfl 33 rfl
      have hAp := hAp.add e82
      exact opk_callX hAp rfl (r_call (args := #[.agg #[.int .i64 a_1_Kind, .string (Bs a_1_Name), .string (Bs a_1_Text), Sl.v a_1_Attrs, Sl.v a_1_Kids]]) Try.func37 (by decide) rfl (map_arr (ml_cons (hAp.get rfl) ml_nil)) rfl) (hc86 w hT.chg) fun _ _ _ _ e ⟨hE, r_83, he, hV⟩ => ⟨_, e, hE, fun _ => ⟨r_83, hV, he⟩⟩
    · intro a w hT
      have hAp := hT.ag hA71 [(4, .pointer (some (⟨B_12, 0, none⟩ : Addr)))] ⟨rfl, trivial⟩ (by kernel_rfl)
      exact opk_val hAp rfl (r_loadN (cs := [.int .i64 b_2_Kind, .string (Bs b_2_Name), .string (Bs b_2_Text), Sl.v b_2_Attrs, Sl.v b_2_Kids]) Try.underlying26 rfl ti_26 (hAp.get rfl) ((hB79.ext hT.chg).part 0 _ rfl)) fun _ _ e => ⟨_, e, Chg.refl _ _, fun _ => Eq.refl _⟩
    · intro a w hT
      have hAp := hT.ag hA71 [] trivial (by kernel_rfl)
      have e88 : a.tmps.getD 35 undef = .agg #[.int .i64 b_2_Kind, .string (Bs b_2_Name), .string (Bs b_2_Text), Sl.v b_2_Attrs, Sl.v b_2_Kids] := hT.vals 2 rfl 35 rfl
      have hAp := hAp.add e88
      exact opk_callX hAp rfl (r_call (args := #[.agg #[.int .i64 b_2_Kind, .string (Bs b_2_Name), .string (Bs b_2_Text), Sl.v b_2_Attrs, Sl.v b_2_Kids]]) Try.func37 (by decide) rfl (map_arr (ml_cons (hAp.get rfl) ml_nil)) rfl) (hc92 w hT.chg) fun _ _ _ _ e ⟨hE, r_89, he, hV⟩ => ⟨_, e, hE, fun _ => ⟨r_89, hV, he⟩⟩
    · intro a w hT
      have hAp := hT.ag hA71 [] trivial (by kernel_rfl)
      obtain ⟨r_83, hf95, e94⟩ := hT.vals 1 rfl 34 rfl
      have hAp := hAp.add e94
      exact opk_val hAp rfl (r_assign (hAp.get rfl)) fun _ _ e => ⟨_, e, Chg.refl _ _, fun _ => ⟨r_83, hf95, rfl⟩⟩
    · intro a w hT
      have hAp := hT.ag hA71 [] trivial (by kernel_rfl)
      obtain ⟨r_89, hf97, e96⟩ := hT.vals 3 rfl 36 rfl
      have hAp := hAp.add e96
      exact opk_val hAp rfl (r_assign (hAp.get rfl)) fun _ _ e => ⟨_, e, Chg.refl _ _, fun _ => ⟨r_89, hf97, rfl⟩⟩
    · intro a98 w99 hE100 hag101 hv102
      have hA98 := hag101 [(2, Sl.v l_3)] ⟨rfl, trivial⟩ (by kernel_rfl)
      obtain ⟨r_83, hf106, e104⟩ := hv102 4 rfl 7 rfl
      have hA105 := hA98.add e104
      obtain ⟨r_89, hf109, e107⟩ := hv102 5 rfl 8 rfl
      have hA108 := hA105.add e107
      have hB110 := hB78.ext hE100
      have hB111 := hB79.ext hE100
      have hC112 : Chg [] w76 w99 := hE100
      have ht113 := ht93 w99 r_83 r_89 hE100 hf106 hf109
      refine PR_end (by kernel_rfl) ?_
      have hA114 := hA108.keep [(2, Sl.v l_3), (7, Sl.v r_83), (8, Sl.v r_89)] ⟨rfl, rfl, rfl, trivial⟩
      refine then_normal ?_
      refine wp_seq ?_
      refine wp_region_lit ?_
      refine sq (opk_val hA114 rfl (r_assign rfl) fun a115 hA115 _ => ?_)
      refine sq_end ?_
      have hA116 := hA115.keep [(2, Sl.v l_3), (7, Sl.v r_83), (8, Sl.v r_89), (9, .int .i64 (-1))] ⟨rfl, rfl, rfl, rfl, trivial⟩
      refine then_normal ?_
      refine wp_seq ?_
      refine wp_region_lit ?_
      refine sq (opk_run hA116 rfl (fun _ _ hr => r_makeMap hr) ht113 fun a117 v123 w118 hA117 _ hn120 hz121 hK122 => ?_)
      obtain ⟨r_124, rfl, ht119⟩ := hK122
      refine sq (opk_val hA117 rfl (r_assign (hA117.get rfl)) fun a125 hA125 _ => ?_)
      refine sq_end ?_
      have hA126 := hA125.keep [(2, Sl.v l_3), (7, Sl.v r_83), (8, Sl.v r_89), (9, .int .i64 (-1)), (10, .map r_124)] ⟨rfl, rfl, rfl, rfl, rfl, trivial⟩
      refine then_normal ?_
      refine wp_seq ?_
      refine wp_seq ?_
      refine wp_region_lit ?_
      refine sq (opk_val hA126 rfl (r_move (hA126.get rfl)) fun a127 hA127 _ => ?_)
      refine sq (opk_val hA127 rfl (r_len (hA127.get rfl) Try.underlying29) fun a128 hA128 _ => ?_)
      refine sq (opk_val hA128 rfl (r_move rfl) fun a129 hA129 _ => ?_)
      refine sq_end ?_
      have hA130 := hA129.keep [(7, Sl.v r_83), (8, Sl.v r_89), (9, .int .i64 (-1)), (10, .map r_124), (38, Sl.v l_3), (39, .int .i64 (l_3.n : Int)), (40, .int .i64 0)] ⟨rfl, rfl, rfl, rfl, rfl, rfl, rfl, trivial⟩
      refine then_normal ?_
      refine wp_block ?_
      obtain ⟨J_134, mu_135, h0313, ht312⟩ := ht119
      refine wp_loop_st (σ := Int × Int × World) (fun s a w => Ag 94 a [(7, Sl.v r_83), (8, Sl.v r_89), (9, .int .i64 s.1), (10, .map r_124), (38, Sl.v l_3), (39, .int .i64 (l_3.n : Int)), (40, .int .i64 s.2.1)] ∧ w = s.2.2 ∧ J_134 s.1 s.2.1 s.2.2) (fun s => mu_135 s.1 s.2.1 s.2.2) ((-1), 0, w118) ⟨hA130.keep [(7, Sl.v r_83), (8, Sl.v r_89), (9, .int .i64 (-1)), (10, .map r_124), (38, Sl.v l_3), (39, .int .i64 (l_3.n : Int)), (40, .int .i64 0)] ⟨rfl, rfl, rfl, rfl, rfl, rfl, rfl, trivial⟩, rfl, h0313⟩ ?_
      rintro ⟨last_131, x_132, w133⟩ a311 w_ ⟨hA311, hw_, hJ315⟩
      have hw_ : w133 = w_ := hw_.symm
      subst hw_
      have ht314 := ht312 last_131 x_132 _ hJ315
      refine wp_seq ?_
      refine wp_region_lit ?_
      refine sq (opk_val hA311 rfl (r_lss (hA311.get rfl) (hA311.get rfl)) fun a316 hA316 _ => ?_)
      refine sq_end ?_
      have hA317 := hA316.keep [(7, Sl.v r_83), (8, Sl.v r_89), (9, .int .i64 last_131), (10, .map r_124), (38, Sl.v l_3), (39, .int .i64 (l_3.n : Int)), (40, .int .i64 x_132), (41, .bool (decide (x_132 < (l_3.n : Int))))] ⟨rfl, rfl, rfl, rfl, rfl, rfl, rfl, rfl, trivial⟩
      refine then_normal ?_
      refine wp_seq ?_
      refine wp_cond_split (hA317.get rfl) (fun hc => ?_) (fun hc => ?_)
      · have ht318 := ht314.1 (of_decide_eq_true hc)
        clear hc
        refine wp_skip ?_
        refine then_normal ?_
        refine wp_seq ?_
        refine wp_block ?_
        refine wp_seq ?_
        refine wp_region_lit ?_
        obtain ⟨hb321, p_320, hp322, ht323⟩ := ht318
        refine sq (opk_val hA317 rfl (r_indexAddr (hA317.get rfl) (hA317.get rfl) Try.underlying29 ti_40 hb321 hp322) fun a324 hA324 _ => ?_)
        obtain ⟨x_326_A, x_326_B, hx327, ht328⟩ := ht323
        refine sq (opk_val hA324 rfl (r_loadN Try.underlying40 rfl ti_40 (hA324.get rfl) hx327) fun a325 hA325 _ => ?_)
        refine sq (opk_new (fun B => .pointer (some ⟨B, 0, none⟩)) hA325 rfl (r_alloc (cs := [.int .i64 0, .int .i64 0]) ti_40 rfl) fun a331 w330 B_329 hE332 hN333 hB334 hA331 _ => ?_)
        have hN335 : New w133 B_329 w330 := hN333
        have hC336 : Chg [] w133 w330 := hE332
        refine sq (opk_store hA331 hB334 (r_store (vs := [.int .i64 x_326_A, .int .i64 x_326_B]) (hA331.get rfl) (hA331.get rfl) rfl ti_40 hB334 rfl (ones_all [.int .i64 x_326_A, .int .i64 x_326_B] rfl)) fun a338 w337 hS339 hB340 hA338 => ?_)
        have hB341 : Box w337 B_329 40 [.int .i64 x_326_A, .int .i64 x_326_B] := hB340
        have hC342 := hC336.storeNew hN335 hS339
        have hN343 := hN335.up hS339.size
        refine sq_end ?_
        have hA344 := hA338.keep [(7, Sl.v r_83), (8, Sl.v r_89), (9, .int .i64 last_131), (10, .map r_124), (12, .pointer (some (⟨B_329, 0, none⟩ : Addr))), (38, Sl.v l_3), (39, .int .i64 (l_3.n : Int)), (40, .int .i64 x_132)] ⟨rfl, rfl, rfl, rfl, rfl, rfl, rfl, rfl, trivial⟩
        refine then_normal ?_
        refine wp_seq ?_
        refine wp_seq ?_
        refine draw' (by kernel_rfl) fun w345 hE346 => ?_
        have hB347 := hB341.ext hE346
        have hC348 := hC342.more hE346
        have hN349 := hN343.up hE346.size
        have ht350 := ht328 w345 B_329 hN349  hC348
        obtain ⟨r_394, hx395, ht396⟩ := ht350
        obtain ⟨p_407, hp408, ht409⟩ := ht396
        obtain ⟨x_412_Parent, x_412_Size, x_412_Depth, x_412_Height, x_412_Place, x_412_Node_Kind, x_412_Node_Name, x_412_Node_Text, x_412_Node_Attrs, x_412_Node_Kids, hx413, ht414⟩ := ht409
        obtain ⟨V_418, hst419, hc420, ht421⟩ := ht414
        obtain ⟨p_429, hp430, ht431⟩ := ht421
        obtain ⟨x_434_Parent, x_434_Size, x_434_Depth, x_434_Height, x_434_Place, x_434_Node_Kind, x_434_Node_Name, x_434_Node_Text, x_434_Node_Attrs, x_434_Node_Kids, hx435, ht436⟩ := ht431
        obtain ⟨V_440, hst441, hc442, ht443⟩ := ht436
        refine par (D := [[], [0], [], [0, 1, 2], [0, 1, 2, 3], [0, 1, 2, 3, 4], [0, 1, 2, 3, 4, 5], [0, 1, 2, 3, 4], [0, 1, 2, 3, 4, 7], [0, 1, 2, 3, 4, 5, 6, 7, 8], [0, 1, 2, 3, 4, 5, 6, 7, 8, 9], [0, 1, 2, 3, 4, 5, 6, 7, 8, 9, 10], [0, 1, 2, 3, 4, 5, 6, 7, 8, 9, 10, 11], [0, 1, 2, 3, 4, 5, 6, 7, 8, 9, 10, 11, 12], [0, 1, 2, 3, 4, 5, 6, 7, 8, 9, 10, 11, 12, 13], [0, 1, 2, 3, 4, 5, 6, 7, 8, 9, 10, 11, 12, 13, 14], [0, 1, 2, 3, 4, 5, 6, 7, 8, 9, 10, 11, 12, 13, 14, 15], [0, 1, 2, 3, 4, 5, 6, 7, 8, 9, 10, 11, 12, 13, 14, 15, 16], [0, 1, 2, 3, 4, 5, 6, 7, 8, 9, 10, 11, 12, 13, 14, 15, 16, 17], [0, 1, 2, 3, 4, 5, 6, 7, 8, 9, 10, 11, 12, 13, 14, 15, 16], [0, 1, 2, 3, 4, 5, 6, 7, 8, 9, 10, 11, 12, 13, 14, 15, 16, 19], [0, 1, 2, 3, 4, 5, 6, 7, 8, 9, 10, 11, 12, 13, 14, 15, 16, 17, 18, 19, 20], [0, 1, 2, 3, 4, 5, 6, 7, 8, 9, 10, 11, 12, 13, 14, 15, 16, 17, 18, 19, 20, 21], [0, 1, 2, 3, 4, 5, 6, 7, 8, 9, 10, 11, 12, 13, 14, 15, 16, 17, 18, 19, 20, 21, 22], [0, 1, 2, 3, 4, 5, 6, 7, 8, 9, 10, 11, 12, 13, 14, 15, 16, 17, 18, 19, 20, 21, 22, 23], [0, 1, 2, 3, 4, 5, 6, 7, 8, 9, 10, 11, 12, 13, 14, 15, 16, 17, 18, 19, 20, 21, 22, 23], [0, 1, 2, 3, 4, 5, 6, 7, 8, 9, 10, 11, 12, 13, 14, 15, 16, 17, 18, 19, 20, 21, 22, 23, 25], [0, 1, 2, 3, 4, 5, 6, 7, 8, 9, 10, 11, 12, 13, 14, 15, 16, 17, 18, 19, 20, 21, 22, 23, 24, 25, 26], [0, 1, 2, 3, 4, 5, 6, 7, 8, 9, 10, 11, 12, 13, 14, 15, 16, 17, 18, 19, 20, 21, 22, 23, 24, 25, 26, 27], [0, 1, 2, 3, 4, 5, 6, 7, 8, 9, 10, 11, 12, 13, 14, 15, 16, 17, 18, 19, 20, 21, 22, 23, 24, 25, 26, 27, 28], [0, 1, 2, 3, 4, 5, 6, 7, 8, 9, 10, 11, 12, 13, 14, 15, 16, 17, 18, 19, 20, 21, 22, 23, 24, 25, 26, 27, 28, 29], [0, 1, 2, 3, 4, 5, 6, 7, 8, 9, 10, 11, 12, 13, 14, 15, 16, 17, 18, 19, 20, 21, 22, 23, 24, 25, 26, 27, 28, 29], [0, 1, 2, 3, 4, 5, 6, 7, 8, 9, 10, 11, 12, 13, 14, 15, 16, 17, 18, 19, 20, 21, 22, 23, 24, 25, 26, 27, 28, 29, 31], [0, 1, 2, 3, 4, 5, 6, 7, 8, 9, 10, 11, 12, 13, 14, 15, 16, 17, 18, 19, 20, 21, 22, 23, 24, 25, 26, 27, 28, 29, 30, 31, 32], [0, 1, 2, 3, 4, 5, 6, 7, 8, 9, 10, 11, 12, 13, 14, 15, 16, 17, 18, 19, 20, 21, 22, 23, 24, 25, 26, 27, 28, 29, 30, 31, 32, 33], [0, 1, 2, 3, 4, 5, 6, 7, 8, 9, 10, 11, 12, 13, 14, 15, 16, 17, 18, 19, 20, 21, 22, 23, 24, 25, 26, 27, 28, 29, 30, 31, 32, 33, 34], [0, 1, 2, 3, 4, 5, 6, 7, 8, 9, 10, 11, 12, 13, 14, 15, 16, 17, 18, 19, 20, 21, 22, 23, 24, 25, 26, 27, 28, 29], [0, 1, 2, 3, 4, 5, 6, 7, 8, 9, 10, 11, 12, 13, 14, 15, 16, 17, 18, 19, 20, 21, 22, 23, 24, 25, 26, 27, 28, 29], [0, 1, 2, 3, 4, 5, 6, 7, 8, 9, 10, 11, 12, 13, 14, 15, 16, 17, 18, 19, 20, 21, 22, 23, 24, 25, 26, 27, 28, 29, 37], [0, 1, 2, 3, 4, 5, 6, 7, 8, 9, 10, 11, 12, 13, 14, 15, 16, 17, 18, 19, 20, 21, 22, 23, 24, 25, 26, 27, 28, 29, 36, 37, 38], [0, 1, 2, 3, 4, 5, 6, 7, 8, 9, 10, 11, 12, 13, 14, 15, 16, 17, 18, 19, 20, 21, 22, 23, 24, 25, 26, 27, 28, 29, 36, 37, 38, 39], [0, 1, 2, 3, 4, 5, 6, 7, 8, 9, 10, 11, 12, 13, 14, 15, 16, 17, 18, 19, 20, 21, 22, 23, 24, 25, 26, 27, 28, 29, 30, 31, 32, 33, 34, 35, 36, 37, 38, 39, 40], [0, 1, 2, 3, 4, 5, 6, 7, 8, 9, 10, 11, 12, 13, 14, 15, 16, 17, 18, 19, 20, 21, 22, 23, 24, 25, 26, 27, 28, 29, 30, 31, 32, 33, 34, 35, 36, 37, 38, 39, 40, 41], [0, 1, 2, 3, 4, 5, 6, 7, 8, 9, 10, 11, 12, 13, 14, 15, 16, 17, 18, 19, 20, 21, 22, 23, 24, 25, 26, 27, 28, 29, 30, 31, 32, 33, 34, 35, 36, 37, 38, 39, 40, 41, 42]]) (S := [0, 1, 2, 3, 4, 5, 6, 7, 8, 9, 10, 11, 12, 13, 14, 15, 16, 17, 18, 19, 20, 21, 22, 23, 24, 25, 26, 27, 28, 29, 30, 31, 32, 33, 34, 35, 36, 37, 38, 39, 40, 41, 42, 43]) (F := []) (V := VL [(0, fun v _ => v = .pointer (some (⟨B_329, 0, none⟩ : Addr))), (1, fun v _ => v = .int .i64 x_326_A), (2, fun v _ => v = .int .i64 last_131), (3, fun v _ => v = .bool (decide (x_326_A ≤ last_131))), (4, fun v _ => v = .bool (decide (x_326_A ≤ last_131))), (5, fun v _ => v = cV (true && ((decide (x_326_A ≤ last_131)) == false)) (.pointer (some (⟨B_329, 0, none⟩ : Addr)))), (6, fun v _ => v = cV (true && ((decide (x_326_A ≤ last_131)) == false)) (.int .i64 x_326_A)), (7, fun v _ => v = cV (true && ((decide (x_326_A ≤ last_131)) == false)) (Sl.v r_83)), (8, fun v _ => v = cV (true && ((decide (x_326_A ≤ last_131)) == false)) (.int .i64 (r_83.n : Int))), (9, fun v _ => v = cV (true && ((decide (x_326_A ≤ last_131)) == false)) (.bool (decide ((r_83.n : Int) ≤ x_326_A)))), (10, fun v _ => v = .bool ((decide (x_326_A ≤ last_131)) || (decide ((r_83.n : Int) ≤ x_326_A)))), (11, fun v _ => v = .bool ((decide (x_326_A ≤ last_131)) || (decide ((r_83.n : Int) ≤ x_326_A)))), (12, fun v _ => v = cV (true && (((decide (x_326_A ≤ last_131)) || (decide ((r_83.n : Int) ≤ x_326_A))) == false)) (.pointer (some (⟨B_329, 1, none⟩ : Addr)))), (13, fun v _ => v = cV (true && (((decide (x_326_A ≤ last_131)) || (decide ((r_83.n : Int) ≤ x_326_A))) == false)) (.int .i64 x_326_B)), (14, fun v _ => v = cV (true && (((decide (x_326_A ≤ last_131)) || (decide ((r_83.n : Int) ≤ x_326_A))) == false)) (.bool (decide (x_326_B < 0)))), (15, fun v _ => v = .bool (((decide (x_326_A ≤ last_131)) || (decide ((r_83.n : Int) ≤ x_326_A))) || (decide (x_326_B < 0)))), (16, fun v _ => v = .bool (((decide (x_326_A ≤ last_131)) || (decide ((r_83.n : Int) ≤ x_326_A))) || (decide (x_326_B < 0)))), (17, fun v _ => v = cV (true && ((((decide (x_326_A ≤ last_131)) || (decide ((r_83.n : Int) ≤ x_326_A))) || (decide (x_326_B < 0))) == false)) (.pointer (some (⟨B_329, 1, none⟩ : Addr)))), (18, fun v _ => v = cV (true && ((((decide (x_326_A ≤ last_131)) || (decide ((r_83.n : Int) ≤ x_326_A))) || (decide (x_326_B < 0))) == false)) (.int .i64 x_326_B)), (19, fun v _ => v = cV (true && ((((decide (x_326_A ≤ last_131)) || (decide ((r_83.n : Int) ≤ x_326_A))) || (decide (x_326_B < 0))) == false)) (Sl.v r_89)), (20, fun v _ => v = cV (true && ((((decide (x_326_A ≤ last_131)) || (decide ((r_83.n : Int) ≤ x_326_A))) || (decide (x_326_B < 0))) == false)) (.int .i64 (r_89.n : Int))), (21, fun v _ => v = cV (true && ((((decide (x_326_A ≤ last_131)) || (decide ((r_83.n : Int) ≤ x_326_A))) || (decide (x_326_B < 0))) == false)) (.bool (decide ((r_89.n : Int) ≤ x_326_B)))), (22, fun v _ => v = .bool ((((decide (x_326_A ≤ last_131)) || (decide ((r_83.n : Int) ≤ x_326_A))) || (decide (x_326_B < 0))) || (decide ((r_89.n : Int) ≤ x_326_B)))), (23, fun v _ => v = .bool ((((decide (x_326_A ≤ last_131)) || (decide ((r_83.n : Int) ≤ x_326_A))) || (decide (x_326_B < 0))) || (decide ((r_89.n : Int) ≤ x_326_B)))), (24, fun v _ => v = cV (true && (((((decide (x_326_A ≤ last_131)) || (decide ((r_83.n : Int) ≤ x_326_A))) || (decide (x_326_B < 0))) || (decide ((r_89.n : Int) ≤ x_326_B))) == false)) (.map r_124)), (25, fun v _ => v = cV (true && (((((decide (x_326_A ≤ last_131)) || (decide ((r_83.n : Int) ≤ x_326_A))) || (decide (x_326_B < 0))) || (decide ((r_89.n : Int) ≤ x_326_B))) == false)) (.pointer (some (⟨B_329, 1, none⟩ : Addr)))), (26, fun v _ => v = cV (true && (((((decide (x_326_A ≤ last_131)) || (decide ((r_83.n : Int) ≤ x_326_A))) || (decide (x_326_B < 0))) || (decide ((r_89.n : Int) ≤ x_326_B))) == false)) (.int .i64 x_326_B)), (27, fun v _ => v = cV (true && (((((decide (x_326_A ≤ last_131)) || (decide ((r_83.n : Int) ≤ x_326_A))) || (decide (x_326_B < 0))) || (decide ((r_89.n : Int) ≤ x_326_B))) == false)) (.bool r_394)), (28, fun v _ => v = .bool (((((decide (x_326_A ≤ last_131)) || (decide ((r_83.n : Int) ≤ x_326_A))) || (decide (x_326_B < 0))) || (decide ((r_89.n : Int) ≤ x_326_B))) || r_394)), (29, fun v _ => v = .bool (((((decide (x_326_A ≤ last_131)) || (decide ((r_83.n : Int) ≤ x_326_A))) || (decide (x_326_B < 0))) || (decide ((r_89.n : Int) ≤ x_326_B))) || r_394)), (30, fun v _ => v = cV (true && ((((((decide (x_326_A ≤ last_131)) || (decide ((r_83.n : Int) ≤ x_326_A))) || (decide (x_326_B < 0))) || (decide ((r_89.n : Int) ≤ x_326_B))) || r_394) == false)) (Sl.v r_83)), (31, fun v _ => v = cV (true && ((((((decide (x_326_A ≤ last_131)) || (decide ((r_83.n : Int) ≤ x_326_A))) || (decide (x_326_B < 0))) || (decide ((r_89.n : Int) ≤ x_326_B))) || r_394) == false)) (.pointer (some (⟨B_329, 0, none⟩ : Addr)))), (32, fun v _ => v = cV (true && ((((((decide (x_326_A ≤ last_131)) || (decide ((r_83.n : Int) ≤ x_326_A))) || (decide (x_326_B < 0))) || (decide ((r_89.n : Int) ≤ x_326_B))) || r_394) == false)) (.int .i64 x_326_A)), (33, fun v _ => v = cV (true && ((((((decide (x_326_A ≤ last_131)) || (decide ((r_83.n : Int) ≤ x_326_A))) || (decide (x_326_B < 0))) || (decide ((r_89.n : Int) ≤ x_326_B))) || r_394) == false)) (.pointer (some (p_407.add (x_326_A.toNat * 10))))), (34, fun v _ => v = cV (true && ((((((decide (x_326_A ≤ last_131)) || (decide ((r_83.n : Int) ≤ x_326_A))) || (decide (x_326_B < 0))) || (decide ((r_89.n : Int) ≤ x_326_B))) || r_394) == false)) (.agg #[.int .i64 x_412_Parent, .int .i64 x_412_Size, .int .i64 x_412_Depth, .int .i64 x_412_Height, .int .i64 x_412_Place, .int .i64 x_412_Node_Kind, .string (Bs x_412_Node_Name), .string (Bs x_412_Node_Text), Sl.v x_412_Node_Attrs, Sl.v x_412_Node_Kids])), (35, fun v w' => ∃ r_417_kind : Int, ∃ r_417_name : Str, (((((((¬ (x_326_A ≤ last_131)) ∧ (¬ ((r_83.n : Int) ≤ x_326_A))) ∧ (¬ (x_326_B < 0))) ∧ (¬ ((r_89.n : Int) ≤ x_326_B))) ∧ (r_394 = false))) → V_418 r_417_kind r_417_name w') ∧ v = cV (true && ((((((decide (x_326_A ≤ last_131)) || (decide ((r_83.n : Int) ≤ x_326_A))) || (decide (x_326_B < 0))) || (decide ((r_89.n : Int) ≤ x_326_B))) || r_394) == false)) (.agg #[.int .i64 r_417_kind, .string (Bs r_417_name)])), (36, fun v _ => v = cV (true && ((((((decide (x_326_A ≤ last_131)) || (decide ((r_83.n : Int) ≤ x_326_A))) || (decide (x_326_B < 0))) || (decide ((r_89.n : Int) ≤ x_326_B))) || r_394) == false)) (Sl.v r_89)), (37, fun v _ => v = cV (true && ((((((decide (x_326_A ≤ last_131)) || (decide ((r_83.n : Int) ≤ x_326_A))) || (decide (x_326_B < 0))) || (decide ((r_89.n : Int) ≤ x_326_B))) || r_394) == false)) (.pointer (some (⟨B_329, 1, none⟩ : Addr)))), (38, fun v _ => v = cV (true && ((((((decide (x_326_A ≤ last_131)) || (decide ((r_83.n : Int) ≤ x_326_A))) || (decide (x_326_B < 0))) || (decide ((r_89.n : Int) ≤ x_326_B))) || r_394) == false)) (.int .i64 x_326_B)), (39, fun v _ => v = cV (true && ((((((decide (x_326_A ≤ last_131)) || (decide ((r_83.n : Int) ≤ x_326_A))) || (decide (x_326_B < 0))) || (decide ((r_89.n : Int) ≤ x_326_B))) || r_394) == false)) (.pointer (some (p_429.add (x_326_B.toNat * 10))))), (40, fun v _ => v = cV (true && ((((((decide (x_326_A ≤ last_131)) || (decide ((r_83.n : Int) ≤ x_326_A))) || (decide (x_326_B < 0))) || (decide ((r_89.n : Int) ≤ x_326_B))) || r_394) == false)) (.agg #[.int .i64 x_434_Parent, .int .i64 x_434_Size, .int .i64 x_434_Depth, .int .i64 x_434_Height, .int .i64 x_434_Place, .int .i64 x_434_Node_Kind, .string (Bs x_434_Node_Name), .string (Bs x_434_Node_Text), Sl.v x_434_Node_Attrs, Sl.v x_434_Node_Kids])), (41, fun v w' => ∃ r_439_kind : Int, ∃ r_439_name : Str, (((((((¬ (x_326_A ≤ last_131)) ∧ (¬ ((r_83.n : Int) ≤ x_326_A))) ∧ (¬ (x_326_B < 0))) ∧ (¬ ((r_89.n : Int) ≤ x_326_B))) ∧ (r_394 = false))) → V_440 r_439_kind r_439_name w') ∧ v = cV (true && ((((((decide (x_326_A ≤ last_131)) || (decide ((r_83.n : Int) ≤ x_326_A))) || (decide (x_326_B < 0))) || (decide ((r_89.n : Int) ≤ x_326_B))) || r_394) == false)) (.agg #[.int .i64 r_439_kind, .string (Bs r_439_name)])), (42, fun v w' => ∃ r_417_kind : Int, ∃ r_417_name : Str, ∃ r_439_kind : Int, ∃ r_439_name : Str, (((((((¬ (x_326_A ≤ last_131)) ∧ (¬ ((r_83.n : Int) ≤ x_326_A))) ∧ (¬ (x_326_B < 0))) ∧ (¬ ((r_89.n : Int) ≤ x_326_B))) ∧ (r_394 = false))) → V_418 r_417_kind r_417_name w') ∧ (((((((¬ (x_326_A ≤ last_131)) ∧ (¬ ((r_83.n : Int) ≤ x_326_A))) ∧ (¬ (x_326_B < 0))) ∧ (¬ ((r_89.n : Int) ≤ x_326_B))) ∧ (r_394 = false))) → V_440 r_439_kind r_439_name w') ∧ v = cV (true && ((((((decide (x_326_A ≤ last_131)) || (decide ((r_83.n : Int) ≤ x_326_A))) || (decide (x_326_B < 0))) || (decide ((r_89.n : Int) ≤ x_326_B))) || r_394) == false)) (.bool (decide (¬ (r_417_kind = r_439_kind ∧ r_417_name = r_439_name))))), (43, fun v w' => ∃ r_417_kind : Int, ∃ r_417_name : Str, ∃ r_439_kind : Int, ∃ r_439_name : Str, (((((((¬ (x_326_A ≤ last_131)) ∧ (¬ ((r_83.n : Int) ≤ x_326_A))) ∧ (¬ (x_326_B < 0))) ∧ (¬ ((r_89.n : Int) ≤ x_326_B))) ∧ (r_394 = false))) → V_418 r_417_kind r_417_name w') ∧ (((((((¬ (x_326_A ≤ last_131)) ∧ (¬ ((r_83.n : Int) ≤ x_326_A))) ∧ (¬ (x_326_B < 0))) ∧ (¬ ((r_89.n : Int) ≤ x_326_B))) ∧ (r_394 = false))) → V_440 r_439_kind r_439_name w') ∧ v = .bool ((((((decide (x_326_A ≤ last_131)) || (decide ((r_83.n : Int) ≤ x_326_A))) || (decide (x_326_B < 0))) || (decide ((r_89.n : Int) ≤ x_326_B))) || r_394) || (decide (¬ (r_417_kind = r_439_kind ∧ r_417_name = r_439_name)))))]) hA344 (by kernel_rfl) ⟨fun _ _ _ _ h => by first | exact h | (change _ = _ at h; change _ = _; exact h), fun _ _ _ _ h => by first | exact h | (change _ = _ at h; change _ = _; exact h), fun _ _ _ _ h => by first | exact h | (change _ = _ at h; change _ = _; exact h), fun _ _ _ _ h => by first | exact h | (change _ = _ at h; change _ = _; exact h), fun _ _ _ _ h => by first | exact h | (change _ = _ at h; change _ = _; exact h), fun _ _ _ _ h => by first | exact h | (change _ = _ at h; change _ = _; exact h), fun _ _ _ _ h => by first | exact h | (change _ = _ at h; change _ = _; exact h), fun _ _ _ _ h => by first | exact h | (change _ = _ at h; change _ = _; exact h), fun _ _ _ _ h => by first | exact h | (change _ = _ at h; change _ = _; exact h), fun _ _ _ _ h => by first | exact h | (change _ = _ at h; change _ = _; exact h), fun _ _ _ _ h => by first | exact h | (change _ = _ at h; change _ = _; exact h), fun _ _ _ _ h => by first | exact h | (change _ = _ at h; change _ = _; exact h), fun _ _ _ _ h => by first | exact h | (change _ = _ at h; change _ = _; exact h), fun _ _ _ _ h => by first | exact h | (change _ = _ at h; change _ = _; exact h), fun _ _ _ _ h => by first | exact h | (change _ = _ at h; change _ = _; exact h), fun _ _ _ _ h => by first | exact h | (change _ = _ at h; change _ = _; exact h), fun _ _ _ _ h => by first | exact h | (change _ = _ at h; change _ = _; exact h), fun _ _ _ _ h => by first | exact h | (change _ = _ at h; change _ = _; exact h), fun _ _ _ _ h => by first | exact h | (change _ = _ at h; change _ = _; exact h), fun _ _ _ _ h => by first | exact h | (change _ = _ at h; change _ = _; exact h), fun _ _ _ _ h => by first | exact h | (change _ = _ at h; change _ = _; exact h), fun _ _ _ _ h => by first | exact h | (change _ = _ at h; change _ = _; exact h), fun _ _ _ _ h => by first | exact h | (change _ = _ at h; change _ = _; exact h), fun _ _ _ _ h => by first | exact h | (change _ = _ at h; change _ = _; exact h), fun _ _ _ _ h => by first | exact h | (change _ = _ at h; change _ = _; exact h), fun _ _ _ _ h => by first | exact h | (change _ = _ at h; change _ = _; exact h), fun _ _ _ _ h => by first | exact h | (change _ = _ at h; change _ = _; exact h), fun _ _ _ _ h => by first | exact h | (change _ = _ at h; change _ = _; exact h), fun _ _ _ _ h => by first | exact h | (change _ = _ at h; change _ = _; exact h), fun _ _ _ _ h => by first | exact h | (change _ = _ at h; change _ = _; exact h), fun _ _ _ _ h => by first | exact h | (change _ = _ at h; change _ = _; exact h), fun _ _ _ _ h => by first | exact h | (change _ = _ at h; change _ = _; exact h), fun _ _ _ _ h => by first | exact h | (change _ = _ at h; change _ = _; exact h), fun _ _ _ _ h => by first | exact h | (change _ = _ at h; change _ = _; exact h), fun _ _ _ _ h => by first | exact h | (change _ = _ at h; change _ = _; exact h), fun _ _ _ hE ⟨r_417_kind, r_417_name, h0_, e⟩ => ⟨r_417_kind, r_417_name, (fun hp => hst419 r_417_kind r_417_name _ _ hE (h0_ hp)), e⟩, fun _ _ _ _ h => by first | exact h | (change _ = _ at h; change _ = _; exact h), fun _ _ _ _ h => by first | exact h | (change _ = _ at h; change _ = _; exact h), fun _ _ _ _ h => by first | exact h | (change _ = _ at h; change _ = _; exact h), fun _ _ _ _ h => by first | exact h | (change _ = _ at h; change _ = _; exact h), fun _ _ _ _ h => by first | exact h | (change _ = _ at h; change _ = _; exact h), fun _ _ _ hE ⟨r_439_kind, r_439_name, h0_, e⟩ => ⟨r_439_kind, r_439_name, (fun hp => hst441 r_439_kind r_439_name _ _ hE (h0_ hp)), e⟩, fun _ _ _ hE ⟨r_417_kind, r_417_name, r_439_kind, r_439_name, h0_, h1_, e⟩ => ⟨r_417_kind, r_417_name, r_439_kind, r_439_name, (fun hp => hst419 r_417_kind r_417_name _ _ hE (h0_ hp)), (fun hp => hst441 r_439_kind r_439_name _ _ hE (h1_ hp)), e⟩, fun _ _ _ hE ⟨r_417_kind, r_417_name, r_439_kind, r_439_name, h0_, h1_, e⟩ => ⟨r_417_kind, r_417_name, r_439_kind, r_439_name, (fun hp => hst419 r_417_kind r_417_name _ _ hE (h0_ hp)), (fun hp => hst441 r_439_kind r_439_name _ _ hE (h1_ hp)), e⟩, trivial⟩ ⟨?_, ?_, ?_, ?_, ?_, ?_, ?_, ?_, ?_, ?_, ?_, ?_, ?_, ?_, ?_, ?_, ?_, ?_, ?_, ?_, ?_, ?_, ?_, ?_, ?_, ?_, ?_, ?_, ?_, ?_, ?_, ?_, ?_, ?_, ?_, ?_, ?_, ?_, ?_, ?_, ?_, ?_, ?_, ?_, trivial⟩ ?_
        · intro a w hT
          have hAp := hT.ag hA344 [(12, .pointer (some (⟨B_329, 0, none⟩ : Addr)))] ⟨rfl, trivial⟩ (by kernel_rfl)
          exact opk_val hAp rfl (r_fieldAddr (hAp.get rfl) Try.underlying40 rfl ti_3 (by decide)) fun _ _ e => ⟨_, e, Chg.refl _ _, fun _ => Eq.refl _⟩
        · intro a w hT
          have hAp := hT.ag hA344 [] trivial (by kernel_rfl)
          have e351 : a.tmps.getD 44 undef = .pointer (some (⟨B_329, 0, none⟩ : Addr)) := hT.vals 0 rfl 44 rfl
          have hAp := hAp.add e351
          exact opk_val hAp rfl (r_load1 Try.underlying3 rfl (hAp.get rfl) ((hB347.ext hT.chg).cell 0 _ rfl)) fun _ _ e => ⟨_, e, Chg.refl _ _, fun _ => Eq.refl _⟩
        · intro a w hT
          have hAp := hT.ag hA344 [(9, .int .i64 last_131)] ⟨rfl, trivial⟩ (by kernel_rfl)
          exact opk_val hAp rfl (r_move (hAp.get rfl)) fun _ _ e => ⟨_, e, Chg.refl _ _, fun _ => Eq.refl _⟩
        · intro a w hT
          have hAp := hT.ag hA344 [] trivial (by kernel_rfl)
          have e352 : a.tmps.getD 45 undef = .int .i64 x_326_A := hT.vals 1 rfl 45 rfl
          have hAp := hAp.add e352
          have e353 : a.tmps.getD 46 undef = .int .i64 last_131 := hT.vals 2 rfl 46 rfl
          have hAp := hAp.add e353
          exact opk_val hAp rfl (r_leq (hAp.get rfl) (hAp.get rfl)) fun _ _ e => ⟨_, e, Chg.refl _ _, fun _ => Eq.refl _⟩
        · intro a w hT
          have hAp := hT.ag hA344 [] trivial (by kernel_rfl)
          have e354 : a.tmps.getD 47 undef = .bool (decide (x_326_A ≤ last_131)) := hT.vals 3 rfl 47 rfl
          have hAp := hAp.add e354
          exact opk_val hAp rfl (r_move (hAp.get rfl)) fun _ _ e => ⟨_, e, Chg.refl _ _, fun _ => Eq.refl _⟩
        · intro a w hT
          have hAp := hT.ag hA344 [(12, .pointer (some (⟨B_329, 0, none⟩ : Addr)))] ⟨rfl, trivial⟩ (by kernel_rfl)
          have e355 : a.tmps.getD 48 undef = .bool (decide (x_326_A ≤ last_131)) := hT.vals 4 rfl 48 rfl
          have hAp := hAp.add e355
          exact opk_gval hAp rfl rfl (g := true) (e := (decide (x_326_A ≤ last_131))) rfl (fun hg => r_fieldAddr (hAp.get rfl) Try.underlying40 rfl ti_3 (by decide)) fun _ _ e => ⟨_, e, Chg.refl _ _, fun _ => Eq.refl _⟩
        · intro a w hT
          have hAp := hT.ag hA344 [] trivial (by kernel_rfl)
          have e356 : a.tmps.getD 48 undef = .bool (decide (x_326_A ≤ last_131)) := hT.vals 4 rfl 48 rfl
          have hAp := hAp.add e356
          have e357 : a.tmps.getD 49 undef = cV (true && ((decide (x_326_A ≤ last_131)) == false)) (.pointer (some (⟨B_329, 0, none⟩ : Addr))) := hT.vals 5 rfl 49 rfl
          have hAp := hAp.add e357
          exact opk_gval hAp rfl rfl (g := true) (e := (decide (x_326_A ≤ last_131))) rfl (fun hg => r_load1 Try.underlying3 rfl (cv_get (hAp.get rfl) hg) ((hB347.ext hT.chg).cell 0 _ rfl)) fun _ _ e => ⟨_, e, Chg.refl _ _, fun _ => Eq.refl _⟩
        · intro a w hT
          have hAp := hT.ag hA344 [(7, Sl.v r_83)] ⟨rfl, trivial⟩ (by kernel_rfl)
          have e358 : a.tmps.getD 48 undef = .bool (decide (x_326_A ≤ last_131)) := hT.vals 4 rfl 48 rfl
          have hAp := hAp.add e358
          exact opk_gval hAp rfl rfl (g := true) (e := (decide (x_326_A ≤ last_131))) rfl (fun hg => r_move (hAp.get rfl)) fun _ _ e => ⟨_, e, Chg.refl _ _, fun _ => Eq.refl _⟩
        · intro a w hT
          have hAp := hT.ag hA344 [] trivial (by kernel_rfl)
          have e359 : a.tmps.getD 48 undef = .bool (decide (x_326_A ≤ last_131)) := hT.vals 4 rfl 48 rfl
          have hAp := hAp.add e359
          have e360 : a.tmps.getD 51 undef = cV (true && ((decide (x_326_A ≤ last_131)) == false)) (Sl.v r_83) := hT.vals 7 rfl 51 rfl
          have hAp := hAp.add e360
          exact opk_gval hAp rfl rfl (g := true) (e := (decide (x_326_A ≤ last_131))) rfl (fun hg => r_len (cv_get (hAp.get rfl) hg) Try.underlying79) fun _ _ e => ⟨_, e, Chg.refl _ _, fun _ => Eq.refl _⟩
        · intro a w hT
          have hAp := hT.ag hA344 [] trivial (by kernel_rfl)
          have e361 : a.tmps.getD 48 undef = .bool (decide (x_326_A ≤ last_131)) := hT.vals 4 rfl 48 rfl
          have hAp := hAp.add e361
          have e362 : a.tmps.getD 50 undef = cV (true && ((decide (x_326_A ≤ last_131)) == false)) (.int .i64 x_326_A) := hT.vals 6 rfl 50 rfl
          have hAp := hAp.add e362
          have e363 : a.tmps.getD 52 undef = cV (true && ((decide (x_326_A ≤ last_131)) == false)) (.int .i64 (r_83.n : Int)) := hT.vals 8 rfl 52 rfl
          have hAp := hAp.add e363
          exact opk_gval hAp rfl rfl (g := true) (e := (decide (x_326_A ≤ last_131))) rfl (fun hg => r_geq (cv_get (hAp.get rfl) hg) (cv_get (hAp.get rfl) hg)) fun _ _ e => ⟨_, e, Chg.refl _ _, fun _ => Eq.refl _⟩
        · intro a w hT
          have hAp := hT.ag hA344 [] trivial (by kernel_rfl)
          have e364 : a.tmps.getD 48 undef = .bool (decide (x_326_A ≤ last_131)) := hT.vals 4 rfl 48 rfl
          have hAp := hAp.add e364
          have e365 : a.tmps.getD 53 undef = cV (true && ((decide (x_326_A ≤ last_131)) == false)) (.bool (decide ((r_83.n : Int) ≤ x_326_A))) := hT.vals 9 rfl 53 rfl
          have hAp := hAp.add e365
          exact opk_val hAp rfl (r_pick_or (g := (true && ((decide (x_326_A ≤ last_131)) == false))) (hAp.get rfl) (hAp.get rfl) (fun he => g_mkf rfl he)) fun _ _ e => ⟨_, e, Chg.refl _ _, fun _ => Eq.refl _⟩
        · intro a w hT
          have hAp := hT.ag hA344 [] trivial (by kernel_rfl)
          have e366 : a.tmps.getD 54 undef = .bool ((decide (x_326_A ≤ last_131)) || (decide ((r_83.n : Int) ≤ x_326_A))) := hT.vals 10 rfl 54 rfl
          have hAp := hAp.add e366
          exact opk_val hAp rfl (r_move (hAp.get rfl)) fun _ _ e => ⟨_, e, Chg.refl _ _, fun _ => Eq.refl _⟩
        · intro a w hT
          have hAp := hT.ag hA344 [(12, .pointer (some (⟨B_329, 0, none⟩ : Addr)))] ⟨rfl, trivial⟩ (by kernel_rfl)
          have e367 : a.tmps.getD 55 undef = .bool ((decide (x_326_A ≤ last_131)) || (decide ((r_83.n : Int) ≤ x_326_A))) := hT.vals 11 rfl 55 rfl
          have hAp := hAp.add e367
          exact opk_gval hAp rfl rfl (g := true) (e := ((decide (x_326_A ≤ last_131)) || (decide ((r_83.n : Int) ≤ x_326_A)))) rfl (fun hg => r_fieldAddr (hAp.get rfl) Try.underlying40 rfl ti_3 (by decide)) fun _ _ e => ⟨_, e, Chg.refl _ _, fun _ => Eq.refl _⟩
        · intro a w hT
          have hAp := hT.ag hA344 [] trivial (by kernel_rfl)
          have e368 : a.tmps.getD 55 undef = .bool ((decide (x_326_A ≤ last_131)) || (decide ((r_83.n : Int) ≤ x_326_A))) := hT.vals 11 rfl 55 rfl
          have hAp := hAp.add e368
          have e369 : a.tmps.getD 56 undef = cV (true && (((decide (x_326_A ≤ last_131)) || (decide ((r_83.n : Int) ≤ x_326_A))) == false)) (.pointer (some (⟨B_329, 1, none⟩ : Addr))) := hT.vals 12 rfl 56 rfl
          have hAp := hAp.add e369
          exact opk_gval hAp rfl rfl (g := true) (e := ((decide (x_326_A ≤ last_131)) || (decide ((r_83.n : Int) ≤ x_326_A)))) rfl (fun hg => r_load1 Try.underlying3 rfl (cv_get (hAp.get rfl) hg) ((hB347.ext hT.chg).cell 1 _ rfl)) fun _ _ e => ⟨_, e, Chg.refl _ _, fun _ => Eq.refl _⟩
        · intro a w hT
          have hAp := hT.ag hA344 [] trivial (by kernel_rfl)
          have e370 : a.tmps.getD 55 undef = .bool ((decide (x_326_A ≤ last_131)) || (decide ((r_83.n : Int) ≤ x_326_A))) := hT.vals 11 rfl 55 rfl
          have hAp := hAp.add e370
          have e371 : a.tmps.getD 57 undef = cV (true && (((decide (x_326_A ≤ last_131)) || (decide ((r_83.n : Int) ≤ x_326_A))) == false)) (.int .i64 x_326_B) := hT.vals 13 rfl 57 rfl
          have hAp := hAp.add e371
          exact opk_gval hAp rfl rfl (g := true) (e := ((decide (x_326_A ≤ last_131)) || (decide ((r_83.n : Int) ≤ x_326_A)))) rfl (fun hg => r_lss (cv_get (hAp.get rfl) hg) rfl) fun _ _ e => ⟨_, e, Chg.refl _ _, fun _ => Eq.refl _⟩
        · intro a w hT
          have hAp := hT.ag hA344 [] trivial (by kernel_rfl)
          have e372 : a.tmps.getD 55 undef = .bool ((decide (x_326_A ≤ last_131)) || (decide ((r_83.n : Int) ≤ x_326_A))) := hT.vals 11 rfl 55 rfl
          have hAp := hAp.add e372
          have e373 : a.tmps.getD 58 undef = cV (true && (((decide (x_326_A ≤ last_131)) || (decide ((r_83.n : Int) ≤ x_326_A))) == false)) (.bool (decide (x_326_B < 0))) := hT.vals 14 rfl 58 rfl
          have hAp := hAp.add e373
          exact opk_val hAp rfl (r_pick_or (g := (true && (((decide (x_326_A ≤ last_131)) || (decide ((r_83.n : Int) ≤ x_326_A))) == false))) (hAp.get rfl) (hAp.get rfl) (fun he => g_mkf rfl he)) fun _ _ e => ⟨_, e, Chg.refl _ _, fun _ => Eq.refl _⟩
        · intro a w hT
          have hAp := hT.ag hA344 [] trivial (by kernel_rfl)
          have e374 : a.tmps.getD 59 undef = .bool (((decide (x_326_A ≤ last_131)) || (decide ((r_83.n : Int) ≤ x_326_A))) || (decide (x_326_B < 0))) := hT.vals 15 rfl 59 rfl
          have hAp := hAp.add e374
          exact opk_val hAp rfl (r_move (hAp.get rfl)) fun _ _ e => ⟨_, e, Chg.refl _ _, fun _ => Eq.refl _⟩
        · intro a w hT
          have hAp := hT.ag hA344 [(12, .pointer (some (⟨B_329, 0, none⟩ : Addr)))] ⟨rfl, trivial⟩ (by kernel_rfl)
          have e375 : a.tmps.getD 60 undef = .bool (((decide (x_326_A ≤ last_131)) || (decide ((r_83.n : Int) ≤ x_326_A))) || (decide (x_326_B < 0))) := hT.vals 16 rfl 60 rfl
          have hAp := hAp.add e375
          exact opk_gval hAp rfl rfl (g := true) (e := (((decide (x_326_A ≤ last_131)) || (decide ((r_83.n : Int) ≤ x_326_A))) || (decide (x_326_B < 0)))) rfl (fun hg => r_fieldAddr (hAp.get rfl) Try.underlying40 rfl ti_3 (by decide)) fun _ _ e => ⟨_, e, Chg.refl _ _, fun _ => Eq.refl _⟩
        · intro a w hT
          have hAp := hT.ag hA344 [] trivial (by kernel_rfl)
          have e376 : a.tmps.getD 60 undef = .bool (((decide (x_326_A ≤ last_131)) || (decide ((r_83.n : Int) ≤ x_326_A))) || (decide (x_326_B < 0))) := hT.vals 16 rfl 60 rfl
          have hAp := hAp.add e376
          have e377 : a.tmps.getD 61 undef = cV (true && ((((decide (x_326_A ≤ last_131)) || (decide ((r_83.n : Int) ≤ x_326_A))) || (decide (x_326_B < 0))) == false)) (.pointer (some (⟨B_329, 1, none⟩ : Addr))) := hT.vals 17 rfl 61 rfl
          have hAp := hAp.add e377
          exact opk_gval hAp rfl rfl (g := true) (e := (((decide (x_326_A ≤ last_131)) || (decide ((r_83.n : Int) ≤ x_326_A))) || (decide (x_326_B < 0)))) rfl (fun hg => r_load1 Try.underlying3 rfl (cv_get (hAp.get rfl) hg) ((hB347.ext hT.chg).cell 1 _ rfl)) fun _ _ e => ⟨_, e, Chg.refl _ _, fun _ => Eq.refl _⟩
        · intro a w hT
          have hAp := hT.ag hA344 [(8, Sl.v r_89)] ⟨rfl, trivial⟩ (by kernel_rfl)
          have e378 : a.tmps.getD 60 undef = .bool (((decide (x_326_A ≤ last_131)) || (decide ((r_83.n : Int) ≤ x_326_A))) || (decide (x_326_B < 0))) := hT.vals 16 rfl 60 rfl
          have hAp := hAp.add e378
          exact opk_gval hAp rfl rfl (g := true) (e := (((decide (x_326_A ≤ last_131)) || (decide ((r_83.n : Int) ≤ x_326_A))) || (decide (x_326_B < 0)))) rfl (fun hg => r_move (hAp.get rfl)) fun _ _ e => ⟨_, e, Chg.refl _ _, fun _ => Eq.refl _⟩
        · intro a w hT
          have hAp := hT.ag hA344 [] trivial (by kernel_rfl)
          have e379 : a.tmps.getD 60 undef = .bool (((decide (x_326_A ≤ last_131)) || (decide ((r_83.n : Int) ≤ x_326_A))) || (decide (x_326_B < 0))) := hT.vals 16 rfl 60 rfl
          have hAp := hAp.add e379
          have e380 : a.tmps.getD 63 undef = cV (true && ((((decide (x_326_A ≤ last_131)) || (decide ((r_83.n : Int) ≤ x_326_A))) || (decide (x_326_B < 0))) == false)) (Sl.v r_89) := hT.vals 19 rfl 63 rfl
          have hAp := hAp.add e380
          exact opk_gval hAp rfl rfl (g := true) (e := (((decide (x_326_A ≤ last_131)) || (decide ((r_83.n : Int) ≤ x_326_A))) || (decide (x_326_B < 0)))) rfl (fun hg => r_len (cv_get (hAp.get rfl) hg) Try.underlying79) fun _ _ e => ⟨_, e, Chg.refl _ _, fun _ => Eq.refl _⟩
        · intro a w hT
          have hAp := hT.ag hA344 [] trivial (by kernel_rfl)
          have e381 : a.tmps.getD 60 undef = .bool (((decide (x_326_A ≤ last_131)) || (decide ((r_83.n : Int) ≤ x_326_A))) || (decide (x_326_B < 0))) := hT.vals 16 rfl 60 rfl
          have hAp := hAp.add e381
          have e382 : a.tmps.getD 62 undef = cV (true && ((((decide (x_326_A ≤ last_131)) || (decide ((r_83.n : Int) ≤ x_326_A))) || (decide (x_326_B < 0))) == false)) (.int .i64 x_326_B) := hT.vals 18 rfl 62 rfl
          have hAp := hAp.add e382
          have e383 : a.tmps.getD 64 undef = cV (true && ((((decide (x_326_A ≤ last_131)) || (decide ((r_83.n : Int) ≤ x_326_A))) || (decide (x_326_B < 0))) == false)) (.int .i64 (r_89.n : Int)) := hT.vals 20 rfl 64 rfl
          have hAp := hAp.add e383
          exact opk_gval hAp rfl rfl (g := true) (e := (((decide (x_326_A ≤ last_131)) || (decide ((r_83.n : Int) ≤ x_326_A))) || (decide (x_326_B < 0)))) rfl (fun hg => r_geq (cv_get (hAp.get rfl) hg) (cv_get (hAp.get rfl) hg)) fun _ _ e => ⟨_, e, Chg.refl _ _, fun _ => Eq.refl _⟩
        · intro a w hT
          have hAp := hT.ag hA344 [] trivial (by kernel_rfl)
          have e384 : a.tmps.getD 60 undef = .bool (((decide (x_326_A ≤ last_131)) || (decide ((r_83.n : Int) ≤ x_326_A))) || (decide (x_326_B < 0))) := hT.vals 16 rfl 60 rfl
          have hAp := hAp.add e384
          have e385 : a.tmps.getD 65 undef = cV (true && ((((decide (x_326_A ≤ last_131)) || (decide ((r_83.n : Int) ≤ x_326_A))) || (decide (x_326_B < 0))) == false)) (.bool (decide ((r_89.n : Int) ≤ x_326_B))) := hT.vals 21 rfl 65 rfl
          have hAp := hAp.add e385
          exact opk_val hAp rfl (r_pick_or (g := (true && ((((decide (x_326_A ≤ last_131)) || (decide ((r_83.n : Int) ≤ x_326_A))) || (decide (x_326_B < 0))) == false))) (hAp.get rfl) (hAp.get rfl) (fun he => g_mkf rfl he)) fun _ _ e => ⟨_, e, Chg.refl _ _, fun _ => Eq.refl _⟩
        · intro a w hT
          have hAp := hT.ag hA344 [] trivial (by kernel_rfl)
          have e386 : a.tmps.getD 66 undef = .bool ((((decide (x_326_A ≤ last_131)) || (decide ((r_83.n : Int) ≤ x_326_A))) || (decide (x_326_B < 0))) || (decide ((r_89.n : Int) ≤ x_326_B))) := hT.vals 22 rfl 66 rfl
          have hAp := hAp.add e386
          exact opk_val hAp rfl (r_move (hAp.get rfl)) fun _ _ e => ⟨_, e, Chg.refl _ _, fun _ => Eq.refl _⟩
        · intro a w hT
          have hAp := hT.ag hA344 [(10, .map r_124)] ⟨rfl, trivial⟩ (by kernel_rfl)
          have e387 : a.tmps.getD 67 undef = .bool ((((decide (x_326_A ≤ last_131)) || (decide ((r_83.n : Int) ≤ x_326_A))) || (decide (x_326_B < 0))) || (decide ((r_89.n : Int) ≤ x_326_B))) := hT.vals 23 rfl 67 rfl
          have hAp := hAp.add e387
          exact opk_gval hAp rfl rfl (g := true) (e := ((((decide (x_326_A ≤ last_131)) || (decide ((r_83.n : Int) ≤ x_326_A))) || (decide (x_326_B < 0))) || (decide ((r_89.n : Int) ≤ x_326_B)))) rfl (fun hg => r_move (hAp.get rfl)) fun _ _ e => ⟨_, e, Chg.refl _ _, fun _ => Eq.refl _⟩
        · intro a w hT
          have hAp := hT.ag hA344 [(12, .pointer (some (⟨B_329, 0, none⟩ : Addr)))] ⟨rfl, trivial⟩ (by kernel_rfl)
          have e388 : a.tmps.getD 67 undef = .bool ((((decide (x_326_A ≤ last_131)) || (decide ((r_83.n : Int) ≤ x_326_A))) || (decide (x_326_B < 0))) || (decide ((r_89.n : Int) ≤ x_326_B))) := hT.vals 23 rfl 67 rfl
          have hAp := hAp.add e388
          exact opk_gval hAp rfl rfl (g := true) (e := ((((decide (x_326_A ≤ last_131)) || (decide ((r_83.n : Int) ≤ x_326_A))) || (decide (x_326_B < 0))) || (decide ((r_89.n : Int) ≤ x_326_B)))) rfl (fun hg => r_fieldAddr (hAp.get rfl) Try.underlying40 rfl ti_3 (by decide)) fun _ _ e => ⟨_, e, Chg.refl _ _, fun _ => Eq.refl _⟩
        · intro a w hT
          have hAp := hT.ag hA344 [] trivial (by kernel_rfl)
          have e389 : a.tmps.getD 67 undef = .bool ((((decide (x_326_A ≤ last_131)) || (decide ((r_83.n : Int) ≤ x_326_A))) || (decide (x_326_B < 0))) || (decide ((r_89.n : Int) ≤ x_326_B))) := hT.vals 23 rfl 67 rfl
          have hAp := hAp.add e389
          have e390 : a.tmps.getD 69 undef = cV (true && (((((decide (x_326_A ≤ last_131)) || (decide ((r_83.n : Int) ≤ x_326_A))) || (decide (x_326_B < 0))) || (decide ((r_89.n : Int) ≤ x_326_B))) == false)) (.pointer (some (⟨B_329, 1, none⟩ : Addr))) := hT.vals 25 rfl 69 rfl
          have hAp := hAp.add e390
          exact opk_gval hAp rfl rfl (g := true) (e := ((((decide (x_326_A ≤ last_131)) || (decide ((r_83.n : Int) ≤ x_326_A))) || (decide (x_326_B < 0))) || (decide ((r_89.n : Int) ≤ x_326_B)))) rfl (fun hg => r_load1 Try.underlying3 rfl (cv_get (hAp.get rfl) hg) ((hB347.ext hT.chg).cell 1 _ rfl)) fun _ _ e => ⟨_, e, Chg.refl _ _, fun _ => Eq.refl _⟩
        · intro a w hT
          have hAp := hT.ag hA344 [] trivial (by kernel_rfl)
          have e391 : a.tmps.getD 67 undef = .bool ((((decide (x_326_A ≤ last_131)) || (decide ((r_83.n : Int) ≤ x_326_A))) || (decide (x_326_B < 0))) || (decide ((r_89.n : Int) ≤ x_326_B))) := hT.vals 23 rfl 67 rfl
          have hAp := hAp.add e391
          have e392 : a.tmps.getD 68 undef = cV (true && (((((decide (x_326_A ≤ last_131)) || (decide ((r_83.n : Int) ≤ x_326_A))) || (decide (x_326_B < 0))) || (decide ((r_89.n : Int) ≤ x_326_B))) == false)) (.map r_124) := hT.vals 24 rfl 68 rfl
          have hAp := hAp.add e392
          have e393 : a.tmps.getD 70 undef = cV (true && (((((decide (x_326_A ≤ last_131)) || (decide ((r_83.n : Int) ≤ x_326_A))) || (decide (x_326_B < 0))) || (decide ((r_89.n : Int) ≤ x_326_B))) == false)) (.int .i64 x_326_B) := hT.vals 26 rfl 70 rfl
          have hAp := hAp.add e393
          exact opk_gval hAp rfl rfl (g := true) (e := ((((decide (x_326_A ≤ last_131)) || (decide ((r_83.n : Int) ≤ x_326_A))) || (decide (x_326_B < 0))) || (decide ((r_89.n : Int) ≤ x_326_B)))) rfl (fun hg => r_lookup (cv_get (hAp.get rfl) hg) (cv_get (hAp.get rfl) hg) ((hx395 ⟨⟨⟨(of_decide_eq_false (b_or_f (b_or_f (b_or_f (g_f hg)).1).1).1), (of_decide_eq_false (b_or_f (b_or_f (b_or_f (g_f hg)).1).1).2)⟩, (of_decide_eq_false (b_or_f (b_or_f (g_f hg)).1).2)⟩, (of_decide_eq_false (b_or_f (g_f hg)).2)⟩) _ hT.chg)) fun _ _ e => ⟨_, e, Chg.refl _ _, fun _ => Eq.refl _⟩
        · intro a w hT
          have hAp := hT.ag hA344 [] trivial (by kernel_rfl)
          have e397 : a.tmps.getD 67 undef = .bool ((((decide (x_326_A ≤ last_131)) || (decide ((r_83.n : Int) ≤ x_326_A))) || (decide (x_326_B < 0))) || (decide ((r_89.n : Int) ≤ x_326_B))) := hT.vals 23 rfl 67 rfl
          have hAp := hAp.add e397
          have e398 : a.tmps.getD 71 undef = cV (true && (((((decide (x_326_A ≤ last_131)) || (decide ((r_83.n : Int) ≤ x_326_A))) || (decide (x_326_B < 0))) || (decide ((r_89.n : Int) ≤ x_326_B))) == false)) (.bool r_394) := hT.vals 27 rfl 71 rfl
          have hAp := hAp.add e398
          exact opk_val hAp rfl (r_pick_or (g := (true && (((((decide (x_326_A ≤ last_131)) || (decide ((r_83.n : Int) ≤ x_326_A))) || (decide (x_326_B < 0))) || (decide ((r_89.n : Int) ≤ x_326_B))) == false))) (hAp.get rfl) (hAp.get rfl) (fun he => g_mkf rfl he)) fun _ _ e => ⟨_, e, Chg.refl _ _, fun _ => Eq.refl _⟩
        · intro a w hT
          have hAp := hT.ag hA344 [] trivial (by kernel_rfl)
          have e399 : a.tmps.getD 72 undef = .bool (((((decide (x_326_A ≤ last_131)) || (decide ((r_83.n : Int) ≤ x_326_A))) || (decide (x_326_B < 0))) || (decide ((r_89.n : Int) ≤ x_326_B))) || r_394) := hT.vals 28 rfl 72 rfl
          have hAp := hAp.add e399
          exact opk_val hAp rfl (r_move (hAp.get rfl)) fun _ _ e => ⟨_, e, Chg.refl _ _, fun _ => Eq.refl _⟩
        · intro a w hT
          have hAp := hT.ag hA344 [(7, Sl.v r_83)] ⟨rfl, trivial⟩ (by kernel_rfl)
          have e400 : a.tmps.getD 73 undef = .bool (((((decide (x_326_A ≤ last_131)) || (decide ((r_83.n : Int) ≤ x_326_A))) || (decide (x_326_B < 0))) || (decide ((r_89.n : Int) ≤ x_326_B))) || r_394) := hT.vals 29 rfl 73 rfl
          have hAp := hAp.add e400
          exact opk_gval hAp rfl rfl (g := true) (e := (((((decide (x_326_A ≤ last_131)) || (decide ((r_83.n : Int) ≤ x_326_A))) || (decide (x_326_B < 0))) || (decide ((r_89.n : Int) ≤ x_326_B))) || r_394)) rfl (fun hg => r_move (hAp.get rfl)) fun _ _ e => ⟨_, e, Chg.refl _ _, fun _ => Eq.refl _⟩
        · intro a w hT
          have hAp := hT.ag hA344 [(12, .pointer (some (⟨B_329, 0, none⟩ : Addr)))] ⟨rfl, trivial⟩ (by kernel_rfl)
          have e401 : a.tmps.getD 73 undef = .bool (((((decide (x_326_A ≤ last_131)) || (decide ((r_83.n : Int) ≤ x_326_A))) || (decide (x_326_B < 0))) || (decide ((r_89.n : Int) ≤ x_326_B))) || r_394) := hT.vals 29 rfl 73 rfl
          have hAp := hAp.add e401
          exact opk_gval hAp rfl rfl (g := true) (e := (((((decide (x_326_A ≤ last_131)) || (decide ((r_83.n : Int) ≤ x_326_A))) || (decide (x_326_B < 0))) || (decide ((r_89.n : Int) ≤ x_326_B))) || r_394)) rfl (fun hg => r_fieldAddr (hAp.get rfl) Try.underlying40 rfl ti_3 (by decide)) fun _ _ e => ⟨_, e, Chg.refl _ _, fun _ => Eq.refl _⟩
        · intro a w hT
          have hAp := hT.ag hA344 [] trivial (by kernel_rfl)
          have e402 : a.tmps.getD 73 undef = .bool (((((decide (x_326_A ≤ last_131)) || (decide ((r_83.n : Int) ≤ x_326_A))) || (decide (x_326_B < 0))) || (decide ((r_89.n : Int) ≤ x_326_B))) || r_394) := hT.vals 29 rfl 73 rfl
          have hAp := hAp.add e402
          have e403 : a.tmps.getD 75 undef = cV (true && ((((((decide (x_326_A ≤ last_131)) || (decide ((r_83.n : Int) ≤ x_326_A))) || (decide (x_326_B < 0))) || (decide ((r_89.n : Int) ≤ x_326_B))) || r_394) == false)) (.pointer (some (⟨B_329, 0, none⟩ : Addr))) := hT.vals 31 rfl 75 rfl
          have hAp := hAp.add e403
          exact opk_gval hAp rfl rfl (g := true) (e := (((((decide (x_326_A ≤ last_131)) || (decide ((r_83.n : Int) ≤ x_326_A))) || (decide (x_326_B < 0))) || (decide ((r_89.n : Int) ≤ x_326_B))) || r_394)) rfl (fun hg => r_load1 Try.underlying3 rfl (cv_get (hAp.get rfl) hg) ((hB347.ext hT.chg).cell 0 _ rfl)) fun _ _ e => ⟨_, e, Chg.refl _ _, fun _ => Eq.refl _⟩
        · intro a w hT
          have hAp := hT.ag hA344 [] trivial (by kernel_rfl)
          have e404 : a.tmps.getD 73 undef = .bool (((((decide (x_326_A ≤ last_131)) || (decide ((r_83.n : Int) ≤ x_326_A))) || (decide (x_326_B < 0))) || (decide ((r_89.n : Int) ≤ x_326_B))) || r_394) := hT.vals 29 rfl 73 rfl
          have hAp := hAp.add e404
          have e405 : a.tmps.getD 74 undef = cV (true && ((((((decide (x_326_A ≤ last_131)) || (decide ((r_83.n : Int) ≤ x_326_A))) || (decide (x_326_B < 0))) || (decide ((r_89.n : Int) ≤ x_326_B))) || r_394) == false)) (Sl.v r_83) := hT.vals 30 rfl 74 rfl
          have hAp := hAp.add e405
          have e406 : a.tmps.getD 76 undef = cV (true && ((((((decide (x_326_A ≤ last_131)) || (decide ((r_83.n : Int) ≤ x_326_A))) || (decide (x_326_B < 0))) || (decide ((r_89.n : Int) ≤ x_326_B))) || r_394) == false)) (.int .i64 x_326_A) := hT.vals 32 rfl 76 rfl
          have hAp := hAp.add e406
          exact opk_gval hAp rfl rfl (g := true) (e := (((((decide (x_326_A ≤ last_131)) || (decide ((r_83.n : Int) ≤ x_326_A))) || (decide (x_326_B < 0))) || (decide ((r_89.n : Int) ≤ x_326_B))) || r_394)) rfl (fun hg => r_indexAddr (cv_get (hAp.get rfl) hg) (cv_get (hAp.get rfl) hg) Try.underlying79 ti_86 (hp408 ⟨⟨⟨⟨(of_decide_eq_false (b_or_f (b_or_f (b_or_f (b_or_f (g_f hg)).1).1).1).1), (of_decide_eq_false (b_or_f (b_or_f (b_or_f (b_or_f (g_f hg)).1).1).1).2)⟩, (of_decide_eq_false (b_or_f (b_or_f (b_or_f (g_f hg)).1).1).2)⟩, (of_decide_eq_false (b_or_f (b_or_f (g_f hg)).1).2)⟩, (b_or_f (g_f hg)).2⟩).1 (hp408 ⟨⟨⟨⟨(of_decide_eq_false (b_or_f (b_or_f (b_or_f (b_or_f (g_f hg)).1).1).1).1), (of_decide_eq_false (b_or_f (b_or_f (b_or_f (b_or_f (g_f hg)).1).1).1).2)⟩, (of_decide_eq_false (b_or_f (b_or_f (b_or_f (g_f hg)).1).1).2)⟩, (of_decide_eq_false (b_or_f (b_or_f (g_f hg)).1).2)⟩, (b_or_f (g_f hg)).2⟩).2) fun _ _ e => ⟨_, e, Chg.refl _ _, fun _ => Eq.refl _⟩
        · intro a w hT
          have hAp := hT.ag hA344 [] trivial (by kernel_rfl)
          have e410 : a.tmps.getD 73 undef = .bool (((((decide (x_326_A ≤ last_131)) || (decide ((r_83.n : Int) ≤ x_326_A))) || (decide (x_326_B < 0))) || (decide ((r_89.n : Int) ≤ x_326_B))) || r_394) := hT.vals 29 rfl 73 rfl
          have hAp := hAp.add e410
          have e411 : a.tmps.getD 77 undef = cV (true && ((((((decide (x_326_A ≤ last_131)) || (decide ((r_83.n : Int) ≤ x_326_A))) || (decide (x_326_B < 0))) || (decide ((r_89.n : Int) ≤ x_326_B))) || r_394) == false)) (.pointer (some (p_407.add (x_326_A.toNat * 10)))) := hT.vals 33 rfl 77 rfl
          have hAp := hAp.add e411
          exact opk_gval hAp rfl rfl (g := true) (e := (((((decide (x_326_A ≤ last_131)) || (decide ((r_83.n : Int) ≤ x_326_A))) || (decide (x_326_B < 0))) || (decide ((r_89.n : Int) ≤ x_326_B))) || r_394)) rfl (fun hg => r_loadN Try.underlying86 rfl ti_86 (cv_get (hAp.get rfl) hg) ((hx413 ⟨⟨⟨⟨(of_decide_eq_false (b_or_f (b_or_f (b_or_f (b_or_f (g_f hg)).1).1).1).1), (of_decide_eq_false (b_or_f (b_or_f (b_or_f (b_or_f (g_f hg)).1).1).1).2)⟩, (of_decide_eq_false (b_or_f (b_or_f (b_or_f (g_f hg)).1).1).2)⟩, (of_decide_eq_false (b_or_f (b_or_f (g_f hg)).1).2)⟩, (b_or_f (g_f hg)).2⟩).ext hT.chg)) fun _ _ e => ⟨_, e, Chg.refl _ _, fun _ => Eq.refl _⟩
        · intro a w hT
          have hAp := hT.ag hA344 [] trivial (by kernel_rfl)
          have e415 : a.tmps.getD 73 undef = .bool (((((decide (x_326_A ≤ last_131)) || (decide ((r_83.n : Int) ≤ x_326_A))) || (decide (x_326_B < 0))) || (decide ((r_89.n : Int) ≤ x_326_B))) || r_394) := hT.vals 29 rfl 73 rfl
          have hAp := hAp.add e415
          have e416 : a.tmps.getD 78 undef = cV (true && ((((((decide (x_326_A ≤ last_131)) || (decide ((r_83.n : Int) ≤ x_326_A))) || (decide (x_326_B < 0))) || (decide ((r_89.n : Int) ≤ x_326_B))) || r_394) == false)) (.agg #[.int .i64 x_412_Parent, .int .i64 x_412_Size, .int .i64 x_412_Depth, .int .i64 x_412_Height, .int .i64 x_412_Place, .int .i64 x_412_Node_Kind, .string (Bs x_412_Node_Name), .string (Bs x_412_Node_Text), Sl.v x_412_Node_Attrs, Sl.v x_412_Node_Kids]) := hT.vals 34 rfl 78 rfl
          have hAp := hAp.add e416
          exact opk_gcallM hAp rfl rfl (g := true) (e := (((((decide (x_326_A ≤ last_131)) || (decide ((r_83.n : Int) ≤ x_326_A))) || (decide (x_326_B < 0))) || (decide ((r_89.n : Int) ≤ x_326_B))) || r_394)) rfl (fun hg => r_call (args := #[.agg #[.int .i64 x_412_Parent, .int .i64 x_412_Size, .int .i64 x_412_Depth, .int .i64 x_412_Height, .int .i64 x_412_Place, .int .i64 x_412_Node_Kind, .string (Bs x_412_Node_Name), .string (Bs x_412_Node_Text), Sl.v x_412_Node_Attrs, Sl.v x_412_Node_Kids]]) Try.func61 (by decide) rfl (map_arr (ml_cons (cv_get (hAp.get rfl) hg) ml_nil)) rfl) (fun hg => hc420 ⟨⟨⟨⟨(of_decide_eq_false (b_or_f (b_or_f (b_or_f (b_or_f (g_f hg)).1).1).1).1), (of_decide_eq_false (b_or_f (b_or_f (b_or_f (b_or_f (g_f hg)).1).1).1).2)⟩, (of_decide_eq_false (b_or_f (b_or_f (b_or_f (g_f hg)).1).1).2)⟩, (of_decide_eq_false (b_or_f (b_or_f (g_f hg)).1).2)⟩, (b_or_f (g_f hg)).2⟩ w hT.chg) fun _ _ _ _ e hE hR => ⟨_, e, hE, fun _ => by obtain ⟨⟨r_417_kind, r_417_name⟩, hx, hV⟩ := cvty (α := Int × Str) (fun s => .agg #[.int .i64 s.1, .string (Bs s.2)]) (fun s w => V_418 s.1 s.2 w) (fun hg => by obtain ⟨r_417_kind, r_417_name, h1, h2⟩ := hR hg; exact ⟨(r_417_kind, r_417_name), h1, h2⟩); exact ⟨r_417_kind, r_417_name, fun hp => hV (g_mkf rfl (b_or_mkf ⟨(b_or_mkf ⟨(b_or_mkf ⟨(b_or_mkf ⟨(decide_eq_false hp.1.1.1.1), (decide_eq_false hp.1.1.1.2)⟩), (decide_eq_false hp.1.1.2)⟩), (decide_eq_false hp.1.2)⟩), hp.2⟩)), hx⟩⟩
        · intro a w hT
          have hAp := hT.ag hA344 [(8, Sl.v r_89)] ⟨rfl, trivial⟩ (by kernel_rfl)
          have e422 : a.tmps.getD 73 undef = .bool (((((decide (x_326_A ≤ last_131)) || (decide ((r_83.n : Int) ≤ x_326_A))) || (decide (x_326_B < 0))) || (decide ((r_89.n : Int) ≤ x_326_B))) || r_394) := hT.vals 29 rfl 73 rfl
          have hAp := hAp.add e422
          exact opk_gval hAp rfl rfl (g := true) (e := (((((decide (x_326_A ≤ last_131)) || (decide ((r_83.n : Int) ≤ x_326_A))) || (decide (x_326_B < 0))) || (decide ((r_89.n : Int) ≤ x_326_B))) || r_394)) rfl (fun hg => r_move (hAp.get rfl)) fun _ _ e => ⟨_, e, Chg.refl _ _, fun _ => Eq.refl _⟩
        · intro a w hT
          have hAp := hT.ag hA344 [(12, .pointer (some (⟨B_329, 0, none⟩ : Addr)))] ⟨rfl, trivial⟩ (by kernel_rfl)
          have e423 : a.tmps.getD 73 undef = .bool (((((decide (x_326_A ≤ last_131)) || (decide ((r_83.n : Int) ≤ x_326_A))) || (decide (x_326_B < 0))) || (decide ((r_89.n : Int) ≤ x_326_B))) || r_394) := hT.vals 29 rfl 73 rfl
          have hAp := hAp.add e423
          exact opk_gval hAp rfl rfl (g := true) (e := (((((decide (x_326_A ≤ last_131)) || (decide ((r_83.n : Int) ≤ x_326_A))) || (decide (x_326_B < 0))) || (decide ((r_89.n : Int) ≤ x_326_B))) || r_394)) rfl (fun hg => r_fieldAddr (hAp.get rfl) Try.underlying40 rfl ti_3 (by decide)) fun _ _ e => ⟨_, e, Chg.refl _ _, fun _ => Eq.refl _⟩
        · intro a w hT
          have hAp := hT.ag hA344 [] trivial (by kernel_rfl)
          have e424 : a.tmps.getD 73 undef = .bool (((((decide (x_326_A ≤ last_131)) || (decide ((r_83.n : Int) ≤ x_326_A))) || (decide (x_326_B < 0))) || (decide ((r_89.n : Int) ≤ x_326_B))) || r_394) := hT.vals 29 rfl 73 rfl
          have hAp := hAp.add e424
          have e425 : a.tmps.getD 81 undef = cV (true && ((((((decide (x_326_A ≤ last_131)) || (decide ((r_83.n : Int) ≤ x_326_A))) || (decide (x_326_B < 0))) || (decide ((r_89.n : Int) ≤ x_326_B))) || r_394) == false)) (.pointer (some (⟨B_329, 1, none⟩ : Addr))) := hT.vals 37 rfl 81 rfl
          have hAp := hAp.add e425
          exact opk_gval hAp rfl rfl (g := true) (e := (((((decide (x_326_A ≤ last_131)) || (decide ((r_83.n : Int) ≤ x_326_A))) || (decide (x_326_B < 0))) || (decide ((r_89.n : Int) ≤ x_326_B))) || r_394)) rfl (fun hg => r_load1 Try.underlying3 rfl (cv_get (hAp.get rfl) hg) ((hB347.ext hT.chg).cell 1 _ rfl)) fun _ _ e => ⟨_, e, Chg.refl _ _, fun _ => Eq.refl _⟩
        · intro a w hT
          have hAp := hT.ag hA344 [] trivial (by kernel_rfl)
          have e426 : a.tmps.getD 73 undef = .bool (((((decide (x_326_A ≤ last_131)) || (decide ((r_83.n : Int) ≤ x_326_A))) || (decide (x_326_B < 0))) || (decide ((r_89.n : Int) ≤ x_326_B))) || r_394) := hT.vals 29 rfl 73 rfl
          have hAp := hAp.add e426
          have e427 : a.tmps.getD 80 undef = cV (true && ((((((decide (x_326_A ≤ last_131)) || (decide ((r_83.n : Int) ≤ x_326_A))) || (decide (x_326_B < 0))) || (decide ((r_89.n : Int) ≤ x_326_B))) || r_394) == false)) (Sl.v r_89) := hT.vals 36 rfl 80 rfl
          have hAp := hAp.add e427
          have e428 : a.tmps.getD 82 undef = cV (true && ((((((decide (x_326_A ≤ last_131)) || (decide ((r_83.n : Int) ≤ x_326_A))) || (decide (x_326_B < 0))) || (decide ((r_89.n : Int) ≤ x_326_B))) || r_394) == false)) (.int .i64 x_326_B) := hT.vals 38 rfl 82 rfl
          have hAp := hAp.add e428
          exact opk_gval hAp rfl rfl (g := true) (e := (((((decide (x_326_A ≤ last_131)) || (decide ((r_83.n : Int) ≤ x_326_A))) || (decide (x_326_B < 0))) || (decide ((r_89.n : Int) ≤ x_326_B))) || r_394)) rfl (fun hg => r_indexAddr (cv_get (hAp.get rfl) hg) (cv_get (hAp.get rfl) hg) Try.underlying79 ti_86 (hp430 ⟨⟨⟨⟨(of_decide_eq_false (b_or_f (b_or_f (b_or_f (b_or_f (g_f hg)).1).1).1).1), (of_decide_eq_false (b_or_f (b_or_f (b_or_f (b_or_f (g_f hg)).1).1).1).2)⟩, (of_decide_eq_false (b_or_f (b_or_f (b_or_f (g_f hg)).1).1).2)⟩, (of_decide_eq_false (b_or_f (b_or_f (g_f hg)).1).2)⟩, (b_or_f (g_f hg)).2⟩).1 (hp430 ⟨⟨⟨⟨(of_decide_eq_false (b_or_f (b_or_f (b_or_f (b_or_f (g_f hg)).1).1).1).1), (of_decide_eq_false (b_or_f (b_or_f (b_or_f (b_or_f (g_f hg)).1).1).1).2)⟩, (of_decide_eq_false (b_or_f (b_or_f (b_or_f (g_f hg)).1).1).2)⟩, (of_decide_eq_false (b_or_f (b_or_f (g_f hg)).1).2)⟩, (b_or_f (g_f hg)).2⟩).2) fun _ _ e => ⟨_, e, Chg.refl _ _, fun _ => Eq.refl _⟩
        · intro a w hT
          have hAp := hT.ag hA344 [] trivial (by kernel_rfl)
          have e432 : a.tmps.getD 73 undef = .bool (((((decide (x_326_A ≤ last_131)) || (decide ((r_83.n : Int) ≤ x_326_A))) || (decide (x_326_B < 0))) || (decide ((r_89.n : Int) ≤ x_326_B))) || r_394) := hT.vals 29 rfl 73 rfl
          have hAp := hAp.add e432
          have e433 : a.tmps.getD 83 undef = cV (true && ((((((decide (x_326_A ≤ last_131)) || (decide ((r_83.n : Int) ≤ x_326_A))) || (decide (x_326_B < 0))) || (decide ((r_89.n : Int) ≤ x_326_B))) || r_394) == false)) (.pointer (some (p_429.add (x_326_B.toNat * 10)))) := hT.vals 39 rfl 83 rfl
          have hAp := hAp.add e433
          exact opk_gval hAp rfl rfl (g := true) (e := (((((decide (x_326_A ≤ last_131)) || (decide ((r_83.n : Int) ≤ x_326_A))) || (decide (x_326_B < 0))) || (decide ((r_89.n : Int) ≤ x_326_B))) || r_394)) rfl (fun hg => r_loadN Try.underlying86 rfl ti_86 (cv_get (hAp.get rfl) hg) ((hx435 ⟨⟨⟨⟨(of_decide_eq_false (b_or_f (b_or_f (b_or_f (b_or_f (g_f hg)).1).1).1).1), (of_decide_eq_false (b_or_f (b_or_f (b_or_f (b_or_f (g_f hg)).1).1).1).2)⟩, (of_decide_eq_false (b_or_f (b_or_f (b_or_f (g_f hg)).1).1).2)⟩, (of_decide_eq_false (b_or_f (b_or_f (g_f hg)).1).2)⟩, (b_or_f (g_f hg)).2⟩).ext hT.chg)) fun _ _ e => ⟨_, e, Chg.refl _ _, fun _ => Eq.refl _⟩
        · intro a w hT
          have hAp := hT.ag hA344 [] trivial (by kernel_rfl)
          have e437 : a.tmps.getD 73 undef = .bool (((((decide (x_326_A ≤ last_131)) || (decide ((r_83.n : Int) ≤ x_326_A))) || (decide (x_326_B < 0))) || (decide ((r_89.n : Int) ≤ x_326_B))) || r_394) := hT.vals 29 rfl 73 rfl
          have hAp := hAp.add e437
          have e438 : a.tmps.getD 84 undef = cV (true && ((((((decide (x_326_A ≤ last_131)) || (decide ((r_83.n : Int) ≤ x_326_A))) || (decide (x_326_B < 0))) || (decide ((r_89.n : Int) ≤ x_326_B))) || r_394) == false)) (.agg #[.int .i64 x_434_Parent, .int .i64 x_434_Size, .int .i64 x_434_Depth, .int .i64 x_434_Height, .int .i64 x_434_Place, .int .i64 x_434_Node_Kind, .string (Bs x_434_Node_Name), .string (Bs x_434_Node_Text), Sl.v x_434_Node_Attrs, Sl.v x_434_Node_Kids]) := hT.vals 40 rfl 84 rfl
          have hAp := hAp.add e438
          exact opk_gcallM hAp rfl rfl (g := true) (e := (((((decide (x_326_A ≤ last_131)) || (decide ((r_83.n : Int) ≤ x_326_A))) || (decide (x_326_B < 0))) || (decide ((r_89.n : Int) ≤ x_326_B))) || r_394)) rfl (fun hg => r_call (args := #[.agg #[.int .i64 x_434_Parent, .int .i64 x_434_Size, .int .i64 x_434_Depth, .int .i64 x_434_Height, .int .i64 x_434_Place, .int .i64 x_434_Node_Kind, .string (Bs x_434_Node_Name), .string (Bs x_434_Node_Text), Sl.v x_434_Node_Attrs, Sl.v x_434_Node_Kids]]) Try.func61 (by decide) rfl (map_arr (ml_cons (cv_get (hAp.get rfl) hg) ml_nil)) rfl) (fun hg => hc442 ⟨⟨⟨⟨(of_decide_eq_false (b_or_f (b_or_f (b_or_f (b_or_f (g_f hg)).1).1).1).1), (of_decide_eq_false (b_or_f (b_or_f (b_or_f (b_or_f (g_f hg)).1).1).1).2)⟩, (of_decide_eq_false (b_or_f (b_or_f (b_or_f (g_f hg)).1).1).2)⟩, (of_decide_eq_false (b_or_f (b_or_f (g_f hg)).1).2)⟩, (b_or_f (g_f hg)).2⟩ w hT.chg) fun _ _ _ _ e hE hR => ⟨_, e, hE, fun _ => by obtain ⟨⟨r_439_kind, r_439_name⟩, hx, hV⟩ := cvty (α := Int × Str) (fun s => .agg #[.int .i64 s.1, .string (Bs s.2)]) (fun s w => V_440 s.1 s.2 w) (fun hg => by obtain ⟨r_439_kind, r_439_name, h1, h2⟩ := hR hg; exact ⟨(r_439_kind, r_439_name), h1, h2⟩); exact ⟨r_439_kind, r_439_name, fun hp => hV (g_mkf rfl (b_or_mkf ⟨(b_or_mkf ⟨(b_or_mkf ⟨(b_or_mkf ⟨(decide_eq_false hp.1.1.1.1), (decide_eq_false hp.1.1.1.2)⟩), (decide_eq_false hp.1.1.2)⟩), (decide_eq_false hp.1.2)⟩), hp.2⟩)), hx⟩⟩
        · intro a w hT
          have hAp := hT.ag hA344 [] trivial (by kernel_rfl)
          have e444 : a.tmps.getD 73 undef = .bool (((((decide (x_326_A ≤ last_131)) || (decide ((r_83.n : Int) ≤ x_326_A))) || (decide (x_326_B < 0))) || (decide ((r_89.n : Int) ≤ x_326_B))) || r_394) := hT.vals 29 rfl 73 rfl
          have hAp := hAp.add e444
          obtain ⟨r_417_kind, r_417_name, hf446, e445⟩ := hT.vals 35 rfl 79 rfl
          have hAp := hAp.add e445
          obtain ⟨r_439_kind, r_439_name, hf448, e447⟩ := hT.vals 41 rfl 85 rfl
          have hAp := hAp.add e447
          exact opk_gval hAp rfl rfl (g := true) (e := (((((decide (x_326_A ≤ last_131)) || (decide ((r_83.n : Int) ≤ x_326_A))) || (decide (x_326_B < 0))) || (decide ((r_89.n : Int) ≤ x_326_B))) || r_394)) rfl (fun hg => r_aneqd (cv_get (hAp.get rfl) hg) (cv_get (hAp.get rfl) hg) (eq_109 _ _ _ _)) fun _ _ e => ⟨_, e, Chg.refl _ _, fun _ => ⟨r_417_kind, r_417_name, r_439_kind, r_439_name, hf446, hf448, rfl⟩⟩
        · intro a w hT
          have hAp := hT.ag hA344 [] trivial (by kernel_rfl)
          have e449 : a.tmps.getD 73 undef = .bool (((((decide (x_326_A ≤ last_131)) || (decide ((r_83.n : Int) ≤ x_326_A))) || (decide (x_326_B < 0))) || (decide ((r_89.n : Int) ≤ x_326_B))) || r_394) := hT.vals 29 rfl 73 rfl
          have hAp := hAp.add e449
          obtain ⟨r_417_kind, r_417_name, r_439_kind, r_439_name, hf451, hf452, e450⟩ := hT.vals 42 rfl 86 rfl
          have hAp := hAp.add e450
          exact opk_val hAp rfl (r_pick_or (g := (true && ((((((decide (x_326_A ≤ last_131)) || (decide ((r_83.n : Int) ≤ x_326_A))) || (decide (x_326_B < 0))) || (decide ((r_89.n : Int) ≤ x_326_B))) || r_394) == false))) (hAp.get rfl) (hAp.get rfl) (fun he => g_mkf rfl he)) fun _ _ e => ⟨_, e, Chg.refl _ _, fun _ => ⟨r_417_kind, r_417_name, r_439_kind, r_439_name, hf451, hf452, rfl⟩⟩
        · intro a453 w454 hE455 hag456 hv457
          have hA453 := hag456 [(7, Sl.v r_83), (8, Sl.v r_89), (10, .map r_124), (12, .pointer (some (⟨B_329, 0, none⟩ : Addr))), (38, Sl.v l_3), (39, .int .i64 (l_3.n : Int)), (40, .int .i64 x_132)] ⟨rfl, rfl, rfl, rfl, rfl, rfl, rfl, trivial⟩ (by kernel_rfl)
          obtain ⟨r_417_kind, r_417_name, r_439_kind, r_439_name, hf461, hf462, e459⟩ := hv457 43 rfl 87 rfl
          have hA460 := hA453.add e459
          have hB463 := hB347.ext hE455
          have hC464 : Chg [] w345 w454 := hE455
          have ht465 := ht443 w454 r_417_kind r_417_name r_439_kind r_439_name hE455 hf461 hf462
          refine PR_end (by kernel_rfl) ?_
          have hA466 := hA460.keep [(7, Sl.v r_83), (8, Sl.v r_89), (10, .map r_124), (12, .pointer (some (⟨B_329, 0, none⟩ : Addr))), (38, Sl.v l_3), (39, .int .i64 (l_3.n : Int)), (40, .int .i64 x_132), (87, .bool ((((((decide (x_326_A ≤ last_131)) || (decide ((r_83.n : Int) ≤ x_326_A))) || (decide (x_326_B < 0))) || (decide ((r_89.n : Int) ≤ x_326_B))) || r_394) || (decide (¬ (r_417_kind = r_439_kind ∧ r_417_name = r_439_name)))))] ⟨rfl, rfl, rfl, rfl, rfl, rfl, rfl, rfl, trivial⟩
          refine then_normal ?_
          refine wp_cond_split (hA466.get rfl) (fun hc => ?_) (fun hc => ?_)
          · have ht467 := ht465.1 ((b_or_t hc).imp (fun h => ((b_or_t h).imp (fun h => ((b_or_t h).imp (fun h => ((b_or_t h).imp (fun h => ((b_or_t h).imp (fun h => (of_decide_eq_true h)) (fun h => (of_decide_eq_true h)))) (fun h => (of_decide_eq_true h)))) (fun h => (of_decide_eq_true h)))) (fun h => h))) (fun h => (of_decide_eq_true h)))
            clear hc
            refine wp_seq ?_
            refine wp_region_lit ?_
            refine sq (opk_val hA466 rfl (r_assign rfl) fun a469 hA469 _ => ?_)
            refine sq_end ?_
            have hA470 := hA469.keep [(6, .bool false)] ⟨rfl, trivial⟩
            refine then_normal ?_
            refine wp_ret ?_
            refine then_ret ?_
            refine block_ret ?_
            refine then_ret ?_
            refine then_ret ?_
            refine block_ret ?_
            refine then_ret ?_
            exact res_all (vs := [.bool false]) rfl hA470 ⟨res_of_tmp hA470 rfl, trivial⟩ ht467
          · have ht468 := ht465.2 ⟨⟨⟨⟨⟨(of_decide_eq_false (b_or_f (b_or_f (b_or_f (b_or_f (b_or_f hc).1).1).1).1).1), (of_decide_eq_false (b_or_f (b_or_f (b_or_f (b_or_f (b_or_f hc).1).1).1).1).2)⟩, (of_decide_eq_false (b_or_f (b_or_f (b_or_f (b_or_f hc).1).1).1).2)⟩, (of_decide_eq_false (b_or_f (b_or_f (b_or_f hc).1).1).2)⟩, (b_or_f (b_or_f hc).1).2⟩, (of_decide_eq_false (b_or_f hc).2)⟩
            clear hc
            refine wp_skip ?_
            refine then_normal ?_
            refine wp_seq ?_
            refine wp_region_lit ?_
            refine sq (opk_val hA466 rfl (r_fieldAddr (hA466.get rfl) Try.underlying40 rfl ti_3 (by decide)) fun a471 hA471 _ => ?_)
            refine sq (opk_val hA471 rfl (r_load1 Try.underlying3 rfl (hA471.get rfl) (hB463.cell 0 _ rfl)) fun a472 hA472 _ => ?_)
            refine sq (opk_val hA472 rfl (r_assign (hA472.get rfl)) fun a473 hA473 _ => ?_)
            refine sq_end ?_
            have hA474 := hA473.keep [(7, Sl.v r_83), (8, Sl.v r_89), (9, .int .i64 x_326_A), (10, .map r_124), (12, .pointer (some (⟨B_329, 0, none⟩ : Addr))), (38, Sl.v l_3), (39, .int .i64 (l_3.n : Int)), (40, .int .i64 x_132)] ⟨rfl, rfl, rfl, rfl, rfl, rfl, rfl, rfl, trivial⟩
            refine then_normal ?_
            refine wp_region_lit ?_
            refine sq (opk_val hA474 rfl (r_move (hA474.get rfl)) fun a475 hA475 _ => ?_)
            refine sq (opk_val hA475 rfl (r_fieldAddr (hA475.get rfl) Try.underlying40 rfl ti_3 (by decide)) fun a476 hA476 _ => ?_)
            refine sq (opk_val hA476 rfl (r_load1 Try.underlying3 rfl (hA476.get rfl) (hB463.cell 1 _ rfl)) fun a477 hA477 _ => ?_)
            refine sq (opk_runU hA477 (fun _ hr => r_mapUpdate (hA477.get rfl) (hA477.get rfl) rfl hr) ht468 fun a478 w479 hA478 hn481 hz482 ht480 => ?_)
            have hB483 := hB463.kept hn481 (.head _)
            refine sq_end ?_
            have hA484 := hA478.keep [(7, Sl.v r_83), (8, Sl.v r_89), (9, .int .i64 x_326_A), (10, .map r_124), (38, Sl.v l_3), (39, .int .i64 (l_3.n : Int)), (40, .int .i64 x_132)] ⟨rfl, rfl, rfl, rfl, rfl, rfl, rfl, trivial⟩
            refine block_normal ?_
            refine then_normal ?_
            refine wp_region_lit ?_
            obtain ⟨hS486, ht487⟩ := ht480
            refine sq (opk_val hA484 rfl (r_addI (hA484.get rfl) rfl hS486) fun a485 hA485 _ => ?_)
            refine sq (opk_val hA485 rfl (r_move (hA485.get rfl)) fun a488 hA488 _ => ?_)
            refine sq_end ?_
            have hA489 := hA488.keep [(7, Sl.v r_83), (8, Sl.v r_89), (9, .int .i64 x_326_A), (10, .map r_124), (38, Sl.v l_3), (39, .int .i64 (l_3.n : Int)), (40, .int .i64 (x_132 + 1))] ⟨rfl, rfl, rfl, rfl, rfl, rfl, rfl, trivial⟩
            have hA490 := hA489.keep [(7, Sl.v r_83), (8, Sl.v r_89), (9, .int .i64 x_326_A), (10, .map r_124), (38, Sl.v l_3), (39, .int .i64 (l_3.n : Int)), (40, .int .i64 (x_132 + 1))] ⟨rfl, rfl, rfl, rfl, rfl, rfl, rfl, trivial⟩
            exact then_normal ⟨(x_326_A, x_132 + 1, w479), ⟨hA490, rfl, ht487.1⟩, ht487.2⟩
      · have ht319 := ht314.2 (of_decide_eq_false hc)
        clear hc
        refine wp_exit ?_
        refine then_exit ?_
        refine then_exit ?_
        refine block_hit ?_
        have hA491 := hA317.keep [] trivial
        refine then_normal ?_
        refine wp_seq ?_
        refine wp_region_lit ?_
        refine sq (opk_val hA491 rfl (r_assign rfl) fun a492 hA492 _ => ?_)
        refine sq_end ?_
        have hA493 := hA492.keep [(6, .bool true)] ⟨rfl, trivial⟩
        refine then_normal ?_
        refine wp_ret ?_
        exact res_all (vs := [.bool true]) rfl hA493 ⟨res_of_tmp hA493 rfl, trivial⟩ ht319

/-- The condition of topiary/match.of. -/
def match_of.vc (x_1_Parent : Int) (x_1_Size : Int) (x_1_Depth : Int) (x_1_Height : Int) (x_1_Place : Int) (x_1_Node_Kind : Int) (x_1_Node_Name : Str) (x_1_Node_Text : Str) (x_1_Node_Attrs : Sl) (x_1_Node_Kids : Sl) (R : Value → World → Prop) (w : World) : Prop :=
∀ (w29 : World) (B_2 : Nat) (B_10 : Nat), New w B_2 w29 → New w B_10 w29 → B_2 ≠ B_10 → Chg [] w w29 →
R (.agg #[.int .i64 x_1_Node_Kind, .string (Bs x_1_Node_Name)]) w29
set_option maxHeartbeats 1000000 in
set_option maxRecDepth 10000 in
theorem match_of.ok (x_1_Parent : Int) (x_1_Size : Int) (x_1_Depth : Int) (x_1_Height : Int) (x_1_Place : Int) (x_1_Node_Kind : Int) (x_1_Node_Name : Str) (x_1_Node_Text : Str) (x_1_Node_Attrs : Sl) (x_1_Node_Kids : Sl) {R : Value → World → Prop} {w : World} (ht0 : match_of.vc x_1_Parent x_1_Size x_1_Depth x_1_Height x_1_Place x_1_Node_Kind x_1_Node_Name x_1_Node_Text x_1_Node_Attrs x_1_Node_Kids R w) : Calls Try.prog 61 #[.agg #[.int .i64 x_1_Parent, .int .i64 x_1_Size, .int .i64 x_1_Depth, .int .i64 x_1_Height, .int .i64 x_1_Place, .int .i64 x_1_Node_Kind, .string (Bs x_1_Node_Name), .string (Bs x_1_Node_Text), Sl.v x_1_Node_Attrs, Sl.v x_1_Node_Kids]] w (Ret R) := by
  refine enter [.agg #[.int .i64 x_1_Parent, .int .i64 x_1_Size, .int .i64 x_1_Depth, .int .i64 x_1_Height, .int .i64 x_1_Place, .int .i64 x_1_Node_Kind, .string (Bs x_1_Node_Name), .string (Bs x_1_Node_Text), Sl.v x_1_Node_Attrs, Sl.v x_1_Node_Kids]] Try.func61 rfl Try.ntmps61 rfl ?_
  intro a0 hA0
  unfold match_of.vc at ht0
  refine wp_seq ?_
  refine wp_region_lit ?_
  refine sq (opk_new (fun B => .pointer (some ⟨B, 0, none⟩)) hA0 rfl (r_box (cs := [.int .i64 x_1_Parent, .int .i64 x_1_Size, .int .i64 x_1_Depth, .int .i64 x_1_Height, .int .i64 x_1_Place, .int .i64 x_1_Node_Kind, .string (Bs x_1_Node_Name), .string (Bs x_1_Node_Text), Sl.v x_1_Node_Attrs, Sl.v x_1_Node_Kids]) (hA0.get rfl) rfl) fun a4 w3 B_2 hE5 hN6 hB7 hA4 _ => ?_)
  have hN8 : New w B_2 w3 := hN6
  have hC9 : Chg [] w w3 := hE5
  refine sq (opk_new (fun B => .pointer (some ⟨B, 0, none⟩)) hA4 rfl (r_alloc (cs := [.int .i64 0, .string (Bs ([] : Str))]) ti_109 rfl) fun a12 w11 B_10 hE13 hN14 hB15 hA12 _ => ?_)
  have hne16 : B_2 ≠ B_10 := Nat.ne_of_lt (Nat.lt_of_lt_of_le hB7.lt hN14.ge)
  have hN17 := New.of hC9 hN14
  have hB18 := hB7.ext hE13
  have hC19 := hC9.more hE13
  have hN20 := hN8.up hE13.size
  refine sq_end ?_
  have hA21 := hA12.keep [(1, .pointer (some (⟨B_2, 0, none⟩ : Addr))), (2, .pointer (some (⟨B_10, 0, none⟩ : Addr)))] ⟨rfl, rfl, trivial⟩
  refine then_normal ?_
  refine wp_seq ?_
  refine wp_region_lit ?_
  refine sq (opk_val hA21 rfl (r_fieldAddr (hA21.get rfl) Try.underlying86 rfl ti_26 (by decide)) fun a22 hA22 _ => ?_)
  refine sq (opk_val hA22 rfl (r_fieldAddr (hA22.get rfl) Try.underlying26 rfl ti_3 (by decide)) fun a23 hA23 _ => ?_)
  refine sq (opk_val hA23 rfl (r_load1 Try.underlying3 rfl (hA23.get rfl) (hB18.cell 5 _ rfl)) fun a24 hA24 _ => ?_)
  refine sq (opk_val hA24 rfl (r_fieldAddr (hA24.get rfl) Try.underlying86 rfl ti_26 (by decide)) fun a25 hA25 _ => ?_)
  refine sq (opk_val hA25 rfl (r_fieldAddr (hA25.get rfl) Try.underlying26 rfl ti_9 (by decide)) fun a26 hA26 _ => ?_)
  refine sq (opk_val hA26 rfl (r_load1 Try.underlying9 rfl (hA26.get rfl) (hB18.cell 6 _ rfl)) fun a27 hA27 _ => ?_)
  refine sq (opk_val hA27 rfl (r_build (vs := #[(0, .int .i64 x_1_Node_Kind), (1, .string (Bs x_1_Node_Name))]) (cells := #[.int .i64 x_1_Node_Kind, .string (Bs x_1_Node_Name)]) (map_arr2 (ml2_cons (hA27.get rfl) (ml2_cons (hA27.get rfl) (ml2_nil)))) ti_109 Try.underlying109 pl_109 (by kernel_rfl)) fun a28 hA28 _ => ?_)
  refine sq (opk_store hA28 hB15 (r_store (vs := [.int .i64 x_1_Node_Kind, .string (Bs x_1_Node_Name)]) (hA28.get rfl) (hA28.get rfl) rfl ti_109 hB15 rfl (ones_all [.int .i64 x_1_Node_Kind, .string (Bs x_1_Node_Name)] rfl)) fun a30 w29 hS31 hB32 hA30 => ?_)
  have hB33 : Box w29 B_10 109 [.int .i64 x_1_Node_Kind, .string (Bs x_1_Node_Name)] := hB32
  have hB34 := hB18.keep hS31 (by simpa using hne16)
  have hC35 := hC19.storeNew hN17 hS31
  have hN36 := hN20.up hS31.size
  have hN37 := hN17.up hS31.size
  refine sq_end ?_
  have hA38 := hA30.keep [(2, .pointer (some (⟨B_10, 0, none⟩ : Addr)))] ⟨rfl, trivial⟩
  refine then_normal ?_
  refine wp_ret ?_
  have ht39 := ht0 w29 B_2 B_10 hN36 hN37 hne16 hC35
  exact res_all (vs := [.agg #[.int .i64 x_1_Node_Kind, .string (Bs x_1_Node_Name)]]) rfl hA38 ⟨res_of_cell hA38 rfl hB33 Try.underlying109 rfl ti_109, trivial⟩ ht39

end Go.Proofs.Yteohbfaechfliaa
