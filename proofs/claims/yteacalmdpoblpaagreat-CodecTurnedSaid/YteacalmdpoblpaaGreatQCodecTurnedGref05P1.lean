/-
  PRINTED BY PROGRAM: for each function its condition (vc), and that this suffices (ok).
-/
import Derived.Test.YteacalmdpoblpaaGreatQCodecTurnedGT
namespace Go.Proofs.YteacalmdpoblpaaGreat
open Go.RowKit
set_option linter.unusedVariables false

/-- The condition of topiary/topiaryref05.Same. -/
def ref05_Same.vc (a_1_Kind : Int) (a_1_Name : Str) (a_1_Text : Str) (a_1_Attrs : Sl) (a_1_Kids : Sl) (b_2_Kind : Int) (b_2_Name : Str) (b_2_Text : Str) (b_2_Attrs : Sl) (b_2_Kids : Sl) (R : Value → World → Prop) (w : World) : Prop :=
∀ (w12 : World) (B_3 : Nat) (B_11 : Nat), New w B_3 w12 → New w B_11 w12 → B_3 ≠ B_11 → Chg [] w w12 →
CallK Tryz.prog 38 #[.agg #[.int .i64 a_1_Kind, .string (Bs a_1_Name), .string (Bs a_1_Text), Sl.v a_1_Attrs, Sl.v a_1_Kids], .agg #[.int .i64 b_2_Kind, .string (Bs b_2_Name), .string (Bs b_2_Text), Sl.v b_2_Attrs, Sl.v b_2_Kids]] w12 [B_3, B_11] (fun v w29 => ∃ (r_27 : Int), v = .int .i64 r_27 ∧
R (.bool (decide (r_27 = 0))) w29)
set_option maxHeartbeats 1000000 in
set_option maxRecDepth 10000 in
theorem ref05_Same.ok (a_1_Kind : Int) (a_1_Name : Str) (a_1_Text : Str) (a_1_Attrs : Sl) (a_1_Kids : Sl) (b_2_Kind : Int) (b_2_Name : Str) (b_2_Text : Str) (b_2_Attrs : Sl) (b_2_Kids : Sl) {R : Value → World → Prop} {w : World} (ht0 : ref05_Same.vc a_1_Kind a_1_Name a_1_Text a_1_Attrs a_1_Kids b_2_Kind b_2_Name b_2_Text b_2_Attrs b_2_Kids R w) : Calls Tryz.prog 13 #[.agg #[.int .i64 a_1_Kind, .string (Bs a_1_Name), .string (Bs a_1_Text), Sl.v a_1_Attrs, Sl.v a_1_Kids], .agg #[.int .i64 b_2_Kind, .string (Bs b_2_Name), .string (Bs b_2_Text), Sl.v b_2_Attrs, Sl.v b_2_Kids]] w (Ret R) := by
  refine enter [.agg #[.int .i64 a_1_Kind, .string (Bs a_1_Name), .string (Bs a_1_Text), Sl.v a_1_Attrs, Sl.v a_1_Kids], .agg #[.int .i64 b_2_Kind, .string (Bs b_2_Name), .string (Bs b_2_Text), Sl.v b_2_Attrs, Sl.v b_2_Kids]] Tryz.func13 rfl Tryz.ntmps13 rfl ?_
  intro a0 hA0
  unfold ref05_Same.vc at ht0
  refine wp_seq ?_
  refine wp_region_lit ?_
  refine sq (opk_new (fun B => .pointer (some ⟨B, 0, none⟩)) hA0 rfl (r_box (cs := [.int .i64 a_1_Kind, .string (Bs a_1_Name), .string (Bs a_1_Text), Sl.v a_1_Attrs, Sl.v a_1_Kids]) (hA0.get rfl) rfl) fun a5 w4 B_3 hE6 hN7 hB8 hA5 _ => ?_)
  have hN9 : New w B_3 w4 := hN7
  have hC10 : Chg [] w w4 := hE6
  refine sq (opk_new (fun B => .pointer (some ⟨B, 0, none⟩)) hA5 rfl (r_box (cs := [.int .i64 b_2_Kind, .string (Bs b_2_Name), .string (Bs b_2_Text), Sl.v b_2_Attrs, Sl.v b_2_Kids]) (hA5.get rfl) rfl) fun a13 w12 B_11 hE14 hN15 hB16 hA13 _ => ?_)
  have hne17 : B_3 ≠ B_11 := Nat.ne_of_lt (Nat.lt_of_lt_of_le hB8.lt hN15.ge)
  have hN18 := New.of hC10 hN15
  have hB19 := hB8.ext hE14
  have hC20 := hC10.more hE14
  have hN21 := hN9.up hE14.size
  refine sq (opk_val hA13 rfl (r_assign rfl) fun a22 hA22 _ => ?_)
  refine sq_end ?_
  have hA23 := hA22.keep [(2, .pointer (some (⟨B_3, 0, none⟩ : Addr))), (3, .pointer (some (⟨B_11, 0, none⟩ : Addr)))] ⟨rfl, rfl, trivial⟩
  refine then_normal ?_
  refine wp_seq ?_
  refine wp_region_lit ?_
  refine sq (opk_val hA23 rfl (r_loadN (cs := [.int .i64 a_1_Kind, .string (Bs a_1_Name), .string (Bs a_1_Text), Sl.v a_1_Attrs, Sl.v a_1_Kids]) Tryz.underlying39 rfl ti_39 (hA23.get rfl) (hB19.part 0 _ rfl)) fun a24 hA24 _ => ?_)
  refine sq (opk_val hA24 rfl (r_loadN (cs := [.int .i64 b_2_Kind, .string (Bs b_2_Name), .string (Bs b_2_Text), Sl.v b_2_Attrs, Sl.v b_2_Kids]) Tryz.underlying39 rfl ti_39 (hA24.get rfl) (hB16.part 0 _ rfl)) fun a25 hA25 _ => ?_)
  have ht26 := ht0 w12 B_3 B_11 hN21 hN18 hne17 hC20
  refine sq (opk_call hA25 rfl (r_call (args := #[.agg #[.int .i64 a_1_Kind, .string (Bs a_1_Name), .string (Bs a_1_Text), Sl.v a_1_Attrs, Sl.v a_1_Kids], .agg #[.int .i64 b_2_Kind, .string (Bs b_2_Name), .string (Bs b_2_Text), Sl.v b_2_Attrs, Sl.v b_2_Kids]]) Tryz.func38 (by decide) rfl (map_arr (ml_cons (hA25.get rfl) (ml_cons (hA25.get rfl) ml_nil))) rfl) ht26 fun a28 v34 w29 hA28 _ hn31 hz32 hK33 => ?_)
  obtain ⟨r_27, rfl, ht30⟩ := hK33
  have hB35 := hB19.kept hn31 (.head _)
  have hB36 := hB16.kept hn31 (.tail _ (.head _))
  refine sq (opk_val hA28 rfl (r_eql (hA28.get rfl) rfl) fun a37 hA37 _ => ?_)
  refine sq (opk_val hA37 rfl (r_assign (hA37.get rfl)) fun a38 hA38 _ => ?_)
  refine sq_end ?_
  have hA39 := hA38.keep [(4, .bool (decide (r_27 = 0)))] ⟨rfl, trivial⟩
  refine then_normal ?_
  refine wp_ret ?_
  exact res_all (vs := [.bool (decide (r_27 = 0))]) rfl hA39 ⟨res_of_tmp hA39 rfl, trivial⟩ ht30

/-- The condition of topiary/topiaryref05.Compare. -/
def ref05_Compare.vc (a_1_Kind : Int) (a_1_Name : Str) (a_1_Text : Str) (a_1_Attrs : Sl) (a_1_Kids : Sl) (b_2_Kind : Int) (b_2_Name : Str) (b_2_Text : Str) (b_2_Attrs : Sl) (b_2_Kids : Sl) (R : Value → World → Prop) (w : World) : Prop :=
∀ (w12 : World) (B_3 : Nat) (B_11 : Nat), New w B_3 w12 → New w B_11 w12 → B_3 ≠ B_11 → Chg [] w w12 →
CallK Tryz.prog 67 #[.agg #[.int .i64 a_1_Kind, .string (Bs a_1_Name), .string (Bs a_1_Text), Sl.v a_1_Attrs, Sl.v a_1_Kids], .agg #[.int .i64 b_2_Kind, .string (Bs b_2_Name), .string (Bs b_2_Text), Sl.v b_2_Attrs, Sl.v b_2_Kids]] w12 [B_3, B_11] (fun v w29 => ∃ (r_27 : Int), v = .int .i64 r_27 ∧
∃ (J_44 : Int → Int → World → Prop) (mu_45 : Int → Int → World → Nat),
J_44 r_27 0 w29 ∧
(∀ (c_41 : Int) (i_42 : Int) (w43 : World), J_44 c_41 i_42 w43 →
((((c_41 = 0) ∧ (i_42 < (a_1_Kids.n : Int))) ∧ (i_42 < (b_2_Kids.n : Int))) →
∀ (w144 : World), Chg [] w43 w144 →
∃ p_153 : Addr, (((0 : Int) ≤ i_42 ∧ i_42 < (a_1_Kids.n : Int)) ∧ a_1_Kids.a = some p_153) ∧
∃ (x_157_Kind : Int) (x_157_Name : Str) (x_157_Text : Str) (x_157_Attrs : Sl) (x_157_Kids : Sl), (Cells w144 (p_153.add (i_42.toNat * 5)) [.int .i64 x_157_Kind, .string (Bs x_157_Name), .string (Bs x_157_Text), Sl.v x_157_Attrs, Sl.v x_157_Kids]) ∧
∃ p_163 : Addr, (((0 : Int) ≤ i_42 ∧ i_42 < (b_2_Kids.n : Int)) ∧ b_2_Kids.a = some p_163) ∧
∃ (x_167_Kind : Int) (x_167_Name : Str) (x_167_Text : Str) (x_167_Attrs : Sl) (x_167_Kids : Sl), (Cells w144 (p_163.add (i_42.toNat * 5)) [.int .i64 x_167_Kind, .string (Bs x_167_Name), .string (Bs x_167_Text), Sl.v x_167_Attrs, Sl.v x_167_Kids]) ∧
∃ (r_172 : Int), (∀ w' : World, Ext w144 w' → Calls Tryz.prog 38 #[.agg #[.int .i64 x_157_Kind, .string (Bs x_157_Name), .string (Bs x_157_Text), Sl.v x_157_Attrs, Sl.v x_157_Kids], .agg #[.int .i64 x_167_Kind, .string (Bs x_167_Name), .string (Bs x_167_Text), Sl.v x_167_Attrs, Sl.v x_167_Kids]] w' (Ret fun v w'' => Ext w' w'' ∧ v = .int .i64 r_172)) ∧
(I64 (i_42 + 1)) ∧
∀ (w177 : World), Chg [] w144 w177 →
J_44 r_172 (i_42 + 1) w177 ∧ mu_45 r_172 (i_42 + 1) w177 < mu_45 c_41 i_42 w43) ∧
((((¬ (c_41 = 0)) ∨ (¬ (i_42 < (a_1_Kids.n : Int)))) ∨ (¬ (i_42 < (b_2_Kids.n : Int)))) →
((c_41 = 0) →
CallK Tryz.prog 68 #[.bool (decide ((a_1_Kids.n : Int) < (b_2_Kids.n : Int))), .bool (decide ((b_2_Kids.n : Int) < (a_1_Kids.n : Int)))] w43 [B_3, B_11] (fun v w218 => ∃ (r_216 : Int), v = .int .i64 r_216 ∧
R (.int .i64 r_216) w218)) ∧
((¬ (c_41 = 0)) →
R (.int .i64 c_41) w43))))
set_option maxHeartbeats 1000000 in
set_option maxRecDepth 10000 in
theorem ref05_Compare.ok (a_1_Kind : Int) (a_1_Name : Str) (a_1_Text : Str) (a_1_Attrs : Sl) (a_1_Kids : Sl) (b_2_Kind : Int) (b_2_Name : Str) (b_2_Text : Str) (b_2_Attrs : Sl) (b_2_Kids : Sl) {R : Value → World → Prop} {w : World} (ht0 : ref05_Compare.vc a_1_Kind a_1_Name a_1_Text a_1_Attrs a_1_Kids b_2_Kind b_2_Name b_2_Text b_2_Attrs b_2_Kids R w) : Calls Tryz.prog 38 #[.agg #[.int .i64 a_1_Kind, .string (Bs a_1_Name), .string (Bs a_1_Text), Sl.v a_1_Attrs, Sl.v a_1_Kids], .agg #[.int .i64 b_2_Kind, .string (Bs b_2_Name), .string (Bs b_2_Text), Sl.v b_2_Attrs, Sl.v b_2_Kids]] w (Ret R) := by
  refine enter [.agg #[.int .i64 a_1_Kind, .string (Bs a_1_Name), .string (Bs a_1_Text), Sl.v a_1_Attrs, Sl.v a_1_Kids], .agg #[.int .i64 b_2_Kind, .string (Bs b_2_Name), .string (Bs b_2_Text), Sl.v b_2_Attrs, Sl.v b_2_Kids]] Tryz.func38 rfl Tryz.ntmps38 rfl ?_
  intro a0 hA0
  unfold ref05_Compare.vc at ht0
  refine wp_seq ?_
  refine wp_region_lit ?_
  refine sq (opk_new (fun B => .pointer (some ⟨B, 0, none⟩)) hA0 rfl (r_box (cs := [.int .i64 a_1_Kind, .string (Bs a_1_Name), .string (Bs a_1_Text), Sl.v a_1_Attrs, Sl.v a_1_Kids]) (hA0.get rfl) rfl) fun a5 w4 B_3 hE6 hN7 hB8 hA5 _ => ?_)
  have hN9 : New w B_3 w4 := hN7
  have hC10 : Chg [] w w4 := hE6
  refine sq (opk_new (fun B => .pointer (some ⟨B, 0, none⟩)) hA5 rfl (r_box (cs := [.int .i64 b_2_Kind, .string (Bs b_2_Name), .string (Bs b_2_Text), Sl.v b_2_Attrs, Sl.v b_2_Kids]) (hA5.get rfl) rfl) fun a13 w12 B_11 hE14 hN15 hB16 hA13 _ => ?_)
  have hne17 : B_3 ≠ B_11 := Nat.ne_of_lt (Nat.lt_of_lt_of_le hB8.lt hN15.ge)
  have hN18 := New.of hC10 hN15
  have hB19 := hB8.ext hE14
  have hC20 := hC10.more hE14
  have hN21 := hN9.up hE14.size
  refine sq (opk_val hA13 rfl (r_assign rfl) fun a22 hA22 _ => ?_)
  refine sq_end ?_
  have hA23 := hA22.keep [(2, .pointer (some (⟨B_3, 0, none⟩ : Addr))), (3, .pointer (some (⟨B_11, 0, none⟩ : Addr)))] ⟨rfl, rfl, trivial⟩
  refine then_normal ?_
  refine wp_seq ?_
  refine wp_region_lit ?_
  refine sq (opk_val hA23 rfl (r_loadN (cs := [.int .i64 a_1_Kind, .string (Bs a_1_Name), .string (Bs a_1_Text), Sl.v a_1_Attrs, Sl.v a_1_Kids]) Tryz.underlying39 rfl ti_39 (hA23.get rfl) (hB19.part 0 _ rfl)) fun a24 hA24 _ => ?_)
  refine sq (opk_val hA24 rfl (r_loadN (cs := [.int .i64 b_2_Kind, .string (Bs b_2_Name), .string (Bs b_2_Text), Sl.v b_2_Attrs, Sl.v b_2_Kids]) Tryz.underlying39 rfl ti_39 (hA24.get rfl) (hB16.part 0 _ rfl)) fun a25 hA25 _ => ?_)
  have ht26 := ht0 w12 B_3 B_11 hN21 hN18 hne17 hC20
  refine sq (opk_call hA25 rfl (r_call (args := #[.agg #[.int .i64 a_1_Kind, .string (Bs a_1_Name), .string (Bs a_1_Text), Sl.v a_1_Attrs, Sl.v a_1_Kids], .agg #[.int .i64 b_2_Kind, .string (Bs b_2_Name), .string (Bs b_2_Text), Sl.v b_2_Attrs, Sl.v b_2_Kids]]) Tryz.func67 (by decide) rfl (map_arr (ml_cons (hA25.get rfl) (ml_cons (hA25.get rfl) ml_nil))) rfl) ht26 fun a28 v34 w29 hA28 _ hn31 hz32 hK33 => ?_)
  obtain ⟨r_27, rfl, ht30⟩ := hK33
  have hB35 := hB19.kept hn31 (.head _)
  have hB36 := hB16.kept hn31 (.tail _ (.head _))
  refine sq (opk_val hA28 rfl (r_assign (hA28.get rfl)) fun a37 hA37 _ => ?_)
  refine sq_end ?_
  have hA38 := hA37.keep [(2, .pointer (some (⟨B_3, 0, none⟩ : Addr))), (3, .pointer (some (⟨B_11, 0, none⟩ : Addr))), (5, .int .i64 r_27)] ⟨rfl, rfl, rfl, trivial⟩
  refine then_normal ?_
  refine wp_seq ?_
  refine wp_seq ?_
  refine wp_region_lit ?_
  refine sq (opk_val hA38 rfl (r_assign rfl) fun a39 hA39 _ => ?_)
  refine sq_end ?_
  have hA40 := hA39.keep [(2, .pointer (some (⟨B_3, 0, none⟩ : Addr))), (3, .pointer (some (⟨B_11, 0, none⟩ : Addr))), (5, .int .i64 r_27), (6, .int .i64 0)] ⟨rfl, rfl, rfl, rfl, trivial⟩
  refine then_normal ?_
  refine wp_block ?_
  obtain ⟨J_44, mu_45, h0122, ht121⟩ := ht30
  refine wp_loop_st (σ := Int × Int × World) (fun s a w => Ag 57 a [(2, .pointer (some (⟨B_3, 0, none⟩ : Addr))), (3, .pointer (some (⟨B_11, 0, none⟩ : Addr))), (5, .int .i64 s.1), (6, .int .i64 s.2.1)] ∧ Box w B_3 39 [.int .i64 a_1_Kind, .string (Bs a_1_Name), .string (Bs a_1_Text), Sl.v a_1_Attrs, Sl.v a_1_Kids] ∧ Box w B_11 39 [.int .i64 b_2_Kind, .string (Bs b_2_Name), .string (Bs b_2_Text), Sl.v b_2_Attrs, Sl.v b_2_Kids] ∧ w = s.2.2 ∧ J_44 s.1 s.2.1 s.2.2) (fun s => mu_45 s.1 s.2.1 s.2.2) (r_27, 0, w29) ⟨hA40.keep [(2, .pointer (some (⟨B_3, 0, none⟩ : Addr))), (3, .pointer (some (⟨B_11, 0, none⟩ : Addr))), (5, .int .i64 r_27), (6, .int .i64 0)] ⟨rfl, rfl, rfl, rfl, trivial⟩, hB35, hB36, rfl, h0122⟩ ?_
  rintro ⟨c_41, i_42, w43⟩ a118 w_ ⟨hA118, hB119, hB120, hw_, hJ124⟩
  have hw_ : w43 = w_ := hw_.symm
  subst hw_
  have ht123 := ht121 c_41 i_42 _ hJ124
  refine wp_seq ?_
  refine wp_seq ?_
  refine wp_region_lit ?_
  refine sq (opk_val hA118 rfl (r_move (hA118.get rfl)) fun a125 hA125 _ => ?_)
  refine sq (opk_val hA125 rfl (r_eql (hA125.get rfl) rfl) fun a126 hA126 _ => ?_)
  refine sq (opk_val hA126 rfl (r_move (hA126.get rfl)) fun a127 hA127 _ => ?_)
  refine sq (opk_gval hA127 rfl rfl (g := true) (e := (decide (c_41 = 0))) rfl (fun hg => r_move (hA127.get rfl)) fun a128 hA128 _ => ?_)
  refine sq (opk_gval hA128 rfl rfl (g := true) (e := (decide (c_41 = 0))) rfl (fun hg => r_fieldAddr (hA128.get rfl) Tryz.underlying39 rfl ti_37 (by decide)) fun a129 hA129 _ => ?_)
  refine sq (opk_gval hA129 rfl rfl (g := true) (e := (decide (c_41 = 0))) rfl (fun hg => r_load1 Tryz.underlying37 rfl (cv_get (hA129.get rfl) hg) (hB119.cell 4 _ rfl)) fun a130 hA130 _ => ?_)
  refine sq (opk_gval hA130 rfl rfl (g := true) (e := (decide (c_41 = 0))) rfl (fun hg => r_len (cv_get (hA130.get rfl) hg) Tryz.underlying37) fun a131 hA131 _ => ?_)
  refine sq (opk_gval hA131 rfl rfl (g := true) (e := (decide (c_41 = 0))) rfl (fun hg => r_lss (cv_get (hA131.get rfl) hg) (cv_get (hA131.get rfl) hg)) fun a132 hA132 _ => ?_)
  refine sq (opk_val hA132 rfl (r_pick_and (g := (true && ((decide (c_41 = 0)) == true))) (hA132.get rfl) (hA132.get rfl) (fun he => g_mkt rfl he)) fun a133 hA133 _ => ?_)
  refine sq (opk_val hA133 rfl (r_move (hA133.get rfl)) fun a134 hA134 _ => ?_)
  refine sq (opk_gval hA134 rfl rfl (g := true) (e := ((decide (c_41 = 0)) && (decide (i_42 < (a_1_Kids.n : Int))))) rfl (fun hg => r_move (hA134.get rfl)) fun a135 hA135 _ => ?_)
  refine sq (opk_gval hA135 rfl rfl (g := true) (e := ((decide (c_41 = 0)) && (decide (i_42 < (a_1_Kids.n : Int))))) rfl (fun hg => r_fieldAddr (hA135.get rfl) Tryz.underlying39 rfl ti_37 (by decide)) fun a136 hA136 _ => ?_)
  refine sq (opk_gval hA136 rfl rfl (g := true) (e := ((decide (c_41 = 0)) && (decide (i_42 < (a_1_Kids.n : Int))))) rfl (fun hg => r_load1 Tryz.underlying37 rfl (cv_get (hA136.get rfl) hg) (hB120.cell 4 _ rfl)) fun a137 hA137 _ => ?_)
  refine sq (opk_gval hA137 rfl rfl (g := true) (e := ((decide (c_41 = 0)) && (decide (i_42 < (a_1_Kids.n : Int))))) rfl (fun hg => r_len (cv_get (hA137.get rfl) hg) Tryz.underlying37) fun a138 hA138 _ => ?_)
  refine sq (opk_gval hA138 rfl rfl (g := true) (e := ((decide (c_41 = 0)) && (decide (i_42 < (a_1_Kids.n : Int))))) rfl (fun hg => r_lss (cv_get (hA138.get rfl) hg) (cv_get (hA138.get rfl) hg)) fun a139 hA139 _ => ?_)
  refine sq (opk_val hA139 rfl (r_pick_and (g := (true && (((decide (c_41 = 0)) && (decide (i_42 < (a_1_Kids.n : Int)))) == true))) (hA139.get rfl) (hA139.get rfl) (fun he => g_mkt rfl he)) fun a140 hA140 _ => ?_)
  refine sq_end ?_
  have hA141 := hA140.keep [(2, .pointer (some (⟨B_3, 0, none⟩ : Addr))), (3, .pointer (some (⟨B_11, 0, none⟩ : Addr))), (5, .int .i64 c_41), (6, .int .i64 i_42), (25, .bool (((decide (c_41 = 0)) && (decide (i_42 < (a_1_Kids.n : Int)))) && (decide (i_42 < (b_2_Kids.n : Int)))))] ⟨rfl, rfl, rfl, rfl, rfl, trivial⟩
  refine then_normal ?_
  refine wp_cond_split (hA141.get rfl) (fun hc => ?_) (fun hc => ?_)
  · have ht142 := ht123.1 ⟨⟨(of_decide_eq_true (b_and_t (b_and_t hc).1).1), (of_decide_eq_true (b_and_t (b_and_t hc).1).2)⟩, (of_decide_eq_true (b_and_t hc).2)⟩
    clear hc
    refine wp_skip ?_
    refine then_normal ?_
    refine wp_seq ?_
    refine wp_block ?_
    refine draw' (by kernel_rfl) fun w144 hE145 => ?_
    have hB146 := hB119.ext hE145
    have hB147 := hB120.ext hE145
    have hC148 : Chg [] w43 w144 := hE145
    have ht149 := ht142 w144    hC148
    obtain ⟨p_153, hp154, ht155⟩ := ht149
    obtain ⟨x_157_Kind, x_157_Name, x_157_Text, x_157_Attrs, x_157_Kids, hx158, ht159⟩ := ht155
    obtain ⟨p_163, hp164, ht165⟩ := ht159
    obtain ⟨x_167_Kind, x_167_Name, x_167_Text, x_167_Attrs, x_167_Kids, hx168, ht169⟩ := ht165
    obtain ⟨r_172, hc173, ht174⟩ := ht169
    refine par (D := [[], [0], [], [0, 1, 2], [0, 1, 2, 3], [], [5], [], [5, 6, 7], [5, 6, 7, 8], [0, 1, 2, 3, 4, 5, 6, 7, 8, 9], [0, 1, 2, 3, 4, 5, 6, 7, 8, 9, 10]]) (S := [0, 1, 2, 3, 4, 5, 6, 7, 8, 9, 10, 11]) (F := []) (V := VL [(0, fun v _ => v = .pointer (some (⟨B_3, 4, none⟩ : Addr))), (1, fun v _ => v = Sl.v a_1_Kids), (2, fun v _ => v = .int .i64 i_42), (3, fun v _ => v = .pointer (some (p_153.add (i_42.toNat * 5)))), (4, fun v _ => v = .agg #[.int .i64 x_157_Kind, .string (Bs x_157_Name), .string (Bs x_157_Text), Sl.v x_157_Attrs, Sl.v x_157_Kids]), (5, fun v _ => v = .pointer (some (⟨B_11, 4, none⟩ : Addr))), (6, fun v _ => v = Sl.v b_2_Kids), (7, fun v _ => v = .int .i64 i_42), (8, fun v _ => v = .pointer (some (p_163.add (i_42.toNat * 5)))), (9, fun v _ => v = .agg #[.int .i64 x_167_Kind, .string (Bs x_167_Name), .string (Bs x_167_Text), Sl.v x_167_Attrs, Sl.v x_167_Kids]), (10, fun v _ => v = .int .i64 r_172), (11, fun v _ => v = .int .i64 r_172)]) hA141 (by kernel_rfl) ⟨fun _ _ _ _ h => by first | exact h | (change _ = _ at h; change _ = _; exact h), fun _ _ _ _ h => by first | exact h | (change _ = _ at h; change _ = _; exact h), fun _ _ _ _ h => by first | exact h | (change _ = _ at h; change _ = _; exact h), fun _ _ _ _ h => by first | exact h | (change _ = _ at h; change _ = _; exact h), fun _ _ _ _ h => by first | exact h | (change _ = _ at h; change _ = _; exact h), fun _ _ _ _ h => by first | exact h | (change _ = _ at h; change _ = _; exact h), fun _ _ _ _ h => by first | exact h | (change _ = _ at h; change _ = _; exact h), fun _ _ _ _ h => by first | exact h | (change _ = _ at h; change _ = _; exact h), fun _ _ _ _ h => by first | exact h | (change _ = _ at h; change _ = _; exact h), fun _ _ _ _ h => by first | exact h | (change _ = _ at h; change _ = _; exact h), fun _ _ _ _ h => by first | exact h | (change _ = _ at h; change _ = _; exact h), fun _ _ _ _ h => by first | exact h | (change _ = _ at h; change _ = _; exact h), trivial⟩ ⟨?_, ?_, ?_, ?_, ?_, ?_, ?_, ?_, ?_, ?_, ?_, ?_, trivial⟩ ?_
    · intro a w hT
      have hAp := hT.ag hA141 [(2, .pointer (some (⟨B_3, 0, none⟩ : Addr)))] ⟨rfl, trivial⟩ (by kernel_rfl)
      exact opk_val hAp rfl (r_fieldAddr (hAp.get rfl) Tryz.underlying39 rfl ti_37 (by decide)) fun _ _ e => ⟨_, e, Chg.refl _ _, fun _ => Eq.refl _⟩
    · intro a w hT
      have hAp := hT.ag hA141 [] trivial (by kernel_rfl)
      have e150 : a.tmps.getD 28 undef = .pointer (some (⟨B_3, 4, none⟩ : Addr)) := hT.vals 0 rfl 28 rfl
      have hAp := hAp.add e150
      exact opk_val hAp rfl (r_load1 Tryz.underlying37 rfl (hAp.get rfl) ((hB146.ext hT.chg).cell 4 _ rfl)) fun _ _ e => ⟨_, e, Chg.refl _ _, fun _ => Eq.refl _⟩
    · intro a w hT
      have hAp := hT.ag hA141 [(6, .int .i64 i_42)] ⟨rfl, trivial⟩ (by kernel_rfl)
      exact opk_val hAp rfl (r_move (hAp.get rfl)) fun _ _ e => ⟨_, e, Chg.refl _ _, fun _ => Eq.refl _⟩
    · intro a w hT
      have hAp := hT.ag hA141 [] trivial (by kernel_rfl)
      have e151 : a.tmps.getD 29 undef = Sl.v a_1_Kids := hT.vals 1 rfl 29 rfl
      have hAp := hAp.add e151
      have e152 : a.tmps.getD 30 undef = .int .i64 i_42 := hT.vals 2 rfl 30 rfl
      have hAp := hAp.add e152
      exact opk_val hAp rfl (r_indexAddr (hAp.get rfl) (hAp.get rfl) Tryz.underlying37 ti_39 hp154.1 hp154.2) fun _ _ e => ⟨_, e, Chg.refl _ _, fun _ => Eq.refl _⟩
    · intro a w hT
      have hAp := hT.ag hA141 [] trivial (by kernel_rfl)
      have e156 : a.tmps.getD 31 undef = .pointer (some (p_153.add (i_42.toNat * 5))) := hT.vals 3 rfl 31 rfl
      have hAp := hAp.add e156
      exact opk_val hAp rfl (r_loadN Tryz.underlying39 rfl ti_39 (hAp.get rfl) (hx158.ext hT.chg)) fun _ _ e => ⟨_, e, Chg.refl _ _, fun _ => Eq.refl _⟩
    · intro a w hT
      have hAp := hT.ag hA141 [(3, .pointer (some (⟨B_11, 0, none⟩ : Addr)))] ⟨rfl, trivial⟩ (by kernel_rfl)
      exact opk_val hAp rfl (r_fieldAddr (hAp.get rfl) Tryz.underlying39 rfl ti_37 (by decide)) fun _ _ e => ⟨_, e, Chg.refl _ _, fun _ => Eq.refl _⟩
    · intro a w hT
      have hAp := hT.ag hA141 [] trivial (by kernel_rfl)
      have e160 : a.tmps.getD 33 undef = .pointer (some (⟨B_11, 4, none⟩ : Addr)) := hT.vals 5 rfl 33 rfl
      have hAp := hAp.add e160
      exact opk_val hAp rfl (r_load1 Tryz.underlying37 rfl (hAp.get rfl) ((hB147.ext hT.chg).cell 4 _ rfl)) fun _ _ e => ⟨_, e, Chg.refl _ _, fun _ => Eq.refl _⟩
    · intro a w hT
      have hAp := hT.ag hA141 [(6, .int .i64 i_42)] ⟨rfl, trivial⟩ (by kernel_rfl)
      exact opk_val hAp rfl (r_move (hAp.get rfl)) fun _ _ e => ⟨_, e, Chg.refl _ _, fun _ => Eq.refl _⟩
    · intro a w hT
      have hAp := hT.ag hA141 [] trivial (by kernel_rfl)
      have e161 : a.tmps.getD 34 undef = Sl.v b_2_Kids := hT.vals 6 rfl 34 rfl
      have hAp := hAp.add e161
      have e162 : a.tmps.getD 35 undef = .int .i64 i_42 := hT.vals 7 rfl 35 rfl
      have hAp := hAp.add e162
      exact opk_val hAp rfl (r_indexAddr (hAp.get rfl) (hAp.get rfl) Tryz.underlying37 ti_39 hp164.1 hp164.2) fun _ _ e => ⟨_, e, Chg.refl _ _, fun _ => Eq.refl _⟩
    · intro a w hT
      have hAp := hT.ag hA141 [] trivial (by kernel_rfl)
      have e166 : a.tmps.getD 36 undef = .pointer (some (p_163.add (i_42.toNat * 5))) := hT.vals 8 rfl 36 rfl
      have hAp := hAp.add e166
      exact opk_val hAp rfl (r_loadN Tryz.underlying39 rfl ti_39 (hAp.get rfl) (hx168.ext hT.chg)) fun _ _ e => ⟨_, e, Chg.refl _ _, fun _ => Eq.refl _⟩
    · intro a w hT
      have hAp := hT.ag hA141 [] trivial (by kernel_rfl)
      have e170 : a.tmps.getD 32 undef = .agg #[.int .i64 x_157_Kind, .string (Bs x_157_Name), .string (Bs x_157_Text), Sl.v x_157_Attrs, Sl.v x_157_Kids] := hT.vals 4 rfl 32 rfl
      have hAp := hAp.add e170
      have e171 : a.tmps.getD 37 undef = .agg #[.int .i64 x_167_Kind, .string (Bs x_167_Name), .string (Bs x_167_Text), Sl.v x_167_Attrs, Sl.v x_167_Kids] := hT.vals 9 rfl 37 rfl
      have hAp := hAp.add e171
      exact opk_callX hAp rfl (r_call (args := #[.agg #[.int .i64 x_157_Kind, .string (Bs x_157_Name), .string (Bs x_157_Text), Sl.v x_157_Attrs, Sl.v x_157_Kids], .agg #[.int .i64 x_167_Kind, .string (Bs x_167_Name), .string (Bs x_167_Text), Sl.v x_167_Attrs, Sl.v x_167_Kids]]) Tryz.func38 (by decide) rfl (map_arr (ml_cons (hAp.get rfl) (ml_cons (hAp.get rfl) ml_nil))) rfl) (hc173 w hT.chg) fun _ _ _ _ e hR => ⟨_, e, hR.1, fun _ => hR.2⟩
    · intro a w hT
      have hAp := hT.ag hA141 [] trivial (by kernel_rfl)
      have e175 : a.tmps.getD 38 undef = .int .i64 r_172 := hT.vals 10 rfl 38 rfl
      have hAp := hAp.add e175
      exact opk_val hAp rfl (r_assign (hAp.get rfl)) fun _ _ e => ⟨_, e, Chg.refl _ _, fun _ => Eq.refl _⟩
    · intro a176 w177 hE178 hag179 hv180
      have hA176 := hag179 [(2, .pointer (some (⟨B_3, 0, none⟩ : Addr))), (3, .pointer (some (⟨B_11, 0, none⟩ : Addr))), (6, .int .i64 i_42)] ⟨rfl, rfl, rfl, trivial⟩ (by kernel_rfl)
      have e182 : a176.tmps.getD 5 undef = .int .i64 r_172 := hv180 11 rfl 5 rfl
      have hA183 := hA176.add e182
      have hB184 := hB146.ext hE178
      have hB185 := hB147.ext hE178
      have hC186 : Chg [] w144 w177 := hE178
      refine PR_end (by kernel_rfl) ?_
      have hA187 := hA183.keep [(2, .pointer (some (⟨B_3, 0, none⟩ : Addr))), (3, .pointer (some (⟨B_11, 0, none⟩ : Addr))), (5, .int .i64 r_172), (6, .int .i64 i_42)] ⟨rfl, rfl, rfl, rfl, trivial⟩
      refine block_normal ?_
      refine then_normal ?_
      refine wp_region_lit ?_
      refine sq (opk_val hA187 rfl (r_move (hA187.get rfl)) fun a188 hA188 _ => ?_)
      obtain ⟨hS190, ht191⟩ := ht174
      refine sq (opk_val hA188 rfl (r_addI (hA188.get rfl) rfl hS190) fun a189 hA189 _ => ?_)
      refine sq (opk_val hA189 rfl (r_assign (hA189.get rfl)) fun a192 hA192 _ => ?_)
      refine sq_end ?_
      have hA193 := hA192.keep [(2, .pointer (some (⟨B_3, 0, none⟩ : Addr))), (3, .pointer (some (⟨B_11, 0, none⟩ : Addr))), (5, .int .i64 r_172), (6, .int .i64 (i_42 + 1))] ⟨rfl, rfl, rfl, rfl, trivial⟩
      have ht194 := ht191 w177    hC186
      have hA195 := hA193.keep [(2, .pointer (some (⟨B_3, 0, none⟩ : Addr))), (3, .pointer (some (⟨B_11, 0, none⟩ : Addr))), (5, .int .i64 r_172), (6, .int .i64 (i_42 + 1))] ⟨rfl, rfl, rfl, rfl, trivial⟩
      exact then_normal ⟨(r_172, i_42 + 1, w177), ⟨hA195, hB184, hB185, rfl, ht194.1⟩, ht194.2⟩
  · have ht143 := ht123.2 ((b_and_f hc).imp (fun h => ((b_and_f h).imp (fun h => (of_decide_eq_false h)) (fun h => (of_decide_eq_false h)))) (fun h => (of_decide_eq_false h)))
    clear hc
    refine wp_exit ?_
    refine then_exit ?_
    refine then_exit ?_
    refine block_hit ?_
    have hA196 := hA141.keep [(2, .pointer (some (⟨B_3, 0, none⟩ : Addr))), (3, .pointer (some (⟨B_11, 0, none⟩ : Addr))), (5, .int .i64 c_41)] ⟨rfl, rfl, rfl, trivial⟩
    refine then_normal ?_
    refine wp_seq ?_
    refine wp_seq ?_
    refine wp_region_lit ?_
    refine sq (opk_val hA196 rfl (r_move (hA196.get rfl)) fun a197 hA197 _ => ?_)
    refine sq (opk_val hA197 rfl (r_eql (hA197.get rfl) rfl) fun a198 hA198 _ => ?_)
    refine sq_end ?_
    have hA199 := hA198.keep [(2, .pointer (some (⟨B_3, 0, none⟩ : Addr))), (3, .pointer (some (⟨B_11, 0, none⟩ : Addr))), (5, .int .i64 c_41), (40, .bool (decide (c_41 = 0)))] ⟨rfl, rfl, rfl, rfl, trivial⟩
    refine then_normal ?_
    refine wp_cond_split (hA199.get rfl) (fun hc => ?_) (fun hc => ?_)
    · have ht200 := ht143.1 (of_decide_eq_true hc)
      clear hc
      refine wp_region_lit ?_
      refine sq (opk_val hA199 rfl (r_fieldAddr (hA199.get rfl) Tryz.underlying39 rfl ti_37 (by decide)) fun a202 hA202 _ => ?_)
      refine sq (opk_val hA202 rfl (r_load1 Tryz.underlying37 rfl (hA202.get rfl) (hB119.cell 4 _ rfl)) fun a203 hA203 _ => ?_)
      refine sq (opk_val hA203 rfl (r_len (hA203.get rfl) Tryz.underlying37) fun a204 hA204 _ => ?_)
      refine sq (opk_val hA204 rfl (r_fieldAddr (hA204.get rfl) Tryz.underlying39 rfl ti_37 (by decide)) fun a205 hA205 _ => ?_)
      refine sq (opk_val hA205 rfl (r_load1 Tryz.underlying37 rfl (hA205.get rfl) (hB120.cell 4 _ rfl)) fun a206 hA206 _ => ?_)
      refine sq (opk_val hA206 rfl (r_len (hA206.get rfl) Tryz.underlying37) fun a207 hA207 _ => ?_)
      refine sq (opk_val hA207 rfl (r_lss (hA207.get rfl) (hA207.get rfl)) fun a208 hA208 _ => ?_)
      refine sq (opk_val hA208 rfl (r_fieldAddr (hA208.get rfl) Tryz.underlying39 rfl ti_37 (by decide)) fun a209 hA209 _ => ?_)
      refine sq (opk_val hA209 rfl (r_load1 Tryz.underlying37 rfl (hA209.get rfl) (hB119.cell 4 _ rfl)) fun a210 hA210 _ => ?_)
      refine sq (opk_val hA210 rfl (r_len (hA210.get rfl) Tryz.underlying37) fun a211 hA211 _ => ?_)
      refine sq (opk_val hA211 rfl (r_fieldAddr (hA211.get rfl) Tryz.underlying39 rfl ti_37 (by decide)) fun a212 hA212 _ => ?_)
      refine sq (opk_val hA212 rfl (r_load1 Tryz.underlying37 rfl (hA212.get rfl) (hB120.cell 4 _ rfl)) fun a213 hA213 _ => ?_)
      refine sq (opk_val hA213 rfl (r_len (hA213.get rfl) Tryz.underlying37) fun a214 hA214 _ => ?_)
      refine sq (opk_val hA214 rfl (r_gtr (hA214.get rfl) (hA214.get rfl)) fun a215 hA215 _ => ?_)
      refine sq (opk_call hA215 rfl (r_call (args := #[.bool (decide ((a_1_Kids.n : Int) < (b_2_Kids.n : Int))), .bool (decide ((b_2_Kids.n : Int) < (a_1_Kids.n : Int)))]) Tryz.func68 (by decide) rfl (map_arr (ml_cons (hA215.get rfl) (ml_cons (hA215.get rfl) ml_nil))) rfl) ht200 fun a217 v223 w218 hA217 _ hn220 hz221 hK222 => ?_)
      obtain ⟨r_216, rfl, ht219⟩ := hK222
      have hB224 := hB119.kept hn220 (.head _)
      have hB225 := hB120.kept hn220 (.tail _ (.head _))
      refine sq (opk_val hA217 rfl (r_assign (hA217.get rfl)) fun a226 hA226 _ => ?_)
      refine sq_end ?_
      have hA227 := hA226.keep [(5, .int .i64 r_216)] ⟨rfl, trivial⟩
      refine then_normal ?_
      refine wp_seq ?_
      refine wp_region_lit ?_
      refine sq (opk_val hA227 rfl (r_move (hA227.get rfl)) fun a228 hA228 _ => ?_)
      refine sq (opk_val hA228 rfl (r_assign (hA228.get rfl)) fun a229 hA229 _ => ?_)
      refine sq_end ?_
      have hA230 := hA229.keep [(4, .int .i64 r_216)] ⟨rfl, trivial⟩
      refine then_normal ?_
      refine wp_ret ?_
      exact res_all (vs := [.int .i64 r_216]) rfl hA230 ⟨res_of_tmp hA230 rfl, trivial⟩ ht219
    · have ht201 := ht143.2 (of_decide_eq_false hc)
      clear hc
      refine wp_skip ?_
      refine then_normal ?_
      refine wp_seq ?_
      refine wp_region_lit ?_
      refine sq (opk_val hA199 rfl (r_move (hA199.get rfl)) fun a231 hA231 _ => ?_)
      refine sq (opk_val hA231 rfl (r_assign (hA231.get rfl)) fun a232 hA232 _ => ?_)
      refine sq_end ?_
      have hA233 := hA232.keep [(4, .int .i64 c_41)] ⟨rfl, trivial⟩
      refine then_normal ?_
      refine wp_ret ?_
      exact res_all (vs := [.int .i64 c_41]) rfl hA233 ⟨res_of_tmp hA233 rfl, trivial⟩ ht201

/-- The condition of topiary/topiaryref05.Node. -/
def ref05_Node.vc (a_1_Kind : Int) (a_1_Name : Str) (a_1_Text : Str) (a_1_Attrs : Sl) (a_1_Kids : Sl) (b_2_Kind : Int) (b_2_Name : Str) (b_2_Text : Str) (b_2_Attrs : Sl) (b_2_Kids : Sl) (R : Value → World → Prop) (w : World) : Prop :=
∀ (w12 : World) (B_3 : Nat) (B_11 : Nat), New w B_3 w12 → New w B_11 w12 → B_3 ≠ B_11 → Chg [] w w12 →
CallK Tryz.prog 68 #[.bool (decide (a_1_Kind < b_2_Kind)), .bool (decide (b_2_Kind < a_1_Kind))] w12 [B_3, B_11] (fun v w37 => ∃ (r_35 : Int), v = .int .i64 r_35 ∧
∃ J_76 : Int → World → Prop,
(((r_35 = 0) →
CallK Tryz.prog 68 #[.bool (Op.bytesLess a_1_Name b_2_Name), .bool (!((Op.bytesLess a_1_Name b_2_Name) || (decide (a_1_Name = b_2_Name))))] w37 [B_3, B_11] (fun v w93 => ∃ (r_91 : Int), v = .int .i64 r_91 ∧
J_76 r_91 w93)) ∧
((¬ (r_35 = 0)) →
J_76 r_35 w37)) ∧
(∀ (c_74 : Int) (w75 : World), J_76 c_74 w75 →
∃ J_138 : Int → World → Prop,
(((c_74 = 0) →
CallK Tryz.prog 68 #[.bool (Op.bytesLess a_1_Text b_2_Text), .bool (!((Op.bytesLess a_1_Text b_2_Text) || (decide (a_1_Text = b_2_Text))))] w75 [B_3, B_11] (fun v w155 => ∃ (r_153 : Int), v = .int .i64 r_153 ∧
J_138 r_153 w155)) ∧
((¬ (c_74 = 0)) →
J_138 c_74 w75)) ∧
(∀ (c_136 : Int) (w137 : World), J_138 c_136 w137 →
∃ (J_176 : Int → Int → World → Prop) (mu_177 : Int → Int → World → Nat),
J_176 c_136 0 w137 ∧
(∀ (c_173 : Int) (i_174 : Int) (w175 : World), J_176 c_173 i_174 w175 →
((((c_173 = 0) ∧ (i_174 < (a_1_Attrs.n : Int))) ∧ (i_174 < (b_2_Attrs.n : Int))) →
∀ (w398 : World), Chg [] w175 w398 →
∃ p_404 : Addr, (((0 : Int) ≤ i_174 ∧ i_174 < (a_1_Attrs.n : Int)) ∧ a_1_Attrs.a = some p_404) ∧
∃ (x_407_Name : Str) (x_407_Value : Str), (Cells w398 (p_404.add (i_174.toNat * 2)) [.string (Bs x_407_Name), .string (Bs x_407_Value)]) ∧
∃ p_410 : Addr, (((0 : Int) ≤ i_174 ∧ i_174 < (b_2_Attrs.n : Int)) ∧ b_2_Attrs.a = some p_410) ∧
∃ (x_413_Name : Str) (x_413_Value : Str), (Cells w398 (p_410.add (i_174.toNat * 2)) [.string (Bs x_413_Name), .string (Bs x_413_Value)]) ∧
∀ (w435 : World) (B_416 : Nat) (B_421 : Nat), Ext w398 w435 → w398.heap.size ≤ B_416 → Box w435 B_416 91 [.string (Bs ([] : Str)), .string (Bs ([] : Str))] → w398.heap.size ≤ B_421 → Box w435 B_421 91 [.string (Bs ([] : Str)), .string (Bs ([] : Str))] → 
∀ (w501 : World), Chg [B_421, B_416] w435 w501 →
CallK Tryz.prog 68 #[.bool ((Op.bytesLess x_407_Name x_413_Name) || ((decide (x_407_Name = x_413_Name)) && (Op.bytesLess x_407_Value x_413_Value))), .bool ((!((Op.bytesLess x_407_Name x_413_Name) || (decide (x_407_Name = x_413_Name)))) || ((decide (x_407_Name = x_413_Name)) && (!((Op.bytesLess x_407_Value x_413_Value) || (decide (x_407_Value = x_413_Value))))))] w501 [B_3, B_11, B_416, B_421] (fun v w552 => ∃ (r_550 : Int), v = .int .i64 r_550 ∧
(I64 (i_174 + 1)) ∧
J_176 r_550 (i_174 + 1) w552 ∧ mu_177 r_550 (i_174 + 1) w552 < mu_177 c_173 i_174 w175)) ∧
((((¬ (c_173 = 0)) ∨ (¬ (i_174 < (a_1_Attrs.n : Int)))) ∨ (¬ (i_174 < (b_2_Attrs.n : Int)))) →
((c_173 = 0) →
CallK Tryz.prog 68 #[.bool (decide ((a_1_Attrs.n : Int) < (b_2_Attrs.n : Int))), .bool (decide ((b_2_Attrs.n : Int) < (a_1_Attrs.n : Int)))] w175 [B_3, B_11] (fun v w593 => ∃ (r_591 : Int), v = .int .i64 r_591 ∧
R (.int .i64 r_591) w593)) ∧
((¬ (c_173 = 0)) →
R (.int .i64 c_173) w175))))))
set_option maxHeartbeats 1000000 in
set_option maxRecDepth 10000 in
theorem ref05_Node.ok (a_1_Kind : Int) (a_1_Name : Str) (a_1_Text : Str) (a_1_Attrs : Sl) (a_1_Kids : Sl) (b_2_Kind : Int) (b_2_Name : Str) (b_2_Text : Str) (b_2_Attrs : Sl) (b_2_Kids : Sl) {R : Value → World → Prop} {w : World} (ht0 : ref05_Node.vc a_1_Kind a_1_Name a_1_Text a_1_Attrs a_1_Kids b_2_Kind b_2_Name b_2_Text b_2_Attrs b_2_Kids R w) : Calls Tryz.prog 67 #[.agg #[.int .i64 a_1_Kind, .string (Bs a_1_Name), .string (Bs a_1_Text), Sl.v a_1_Attrs, Sl.v a_1_Kids], .agg #[.int .i64 b_2_Kind, .string (Bs b_2_Name), .string (Bs b_2_Text), Sl.v b_2_Attrs, Sl.v b_2_Kids]] w (Ret R) := by
  refine enter [.agg #[.int .i64 a_1_Kind, .string (Bs a_1_Name), .string (Bs a_1_Text), Sl.v a_1_Attrs, Sl.v a_1_Kids], .agg #[.int .i64 b_2_Kind, .string (Bs b_2_Name), .string (Bs b_2_Text), Sl.v b_2_Attrs, Sl.v b_2_Kids]] Tryz.func67 rfl Tryz.ntmps67 rfl ?_
  intro a0 hA0
  unfold ref05_Node.vc at ht0
  refine wp_seq ?_
  refine wp_region_lit ?_
  refine sq (opk_new (fun B => .pointer (some ⟨B, 0, none⟩)) hA0 rfl (r_box (cs := [.int .i64 a_1_Kind, .string (Bs a_1_Name), .string (Bs a_1_Text), Sl.v a_1_Attrs, Sl.v a_1_Kids]) (hA0.get rfl) rfl) fun a5 w4 B_3 hE6 hN7 hB8 hA5 _ => ?_)
  have hN9 : New w B_3 w4 := hN7
  have hC10 : Chg [] w w4 := hE6
  refine sq (opk_new (fun B => .pointer (some ⟨B, 0, none⟩)) hA5 rfl (r_box (cs := [.int .i64 b_2_Kind, .string (Bs b_2_Name), .string (Bs b_2_Text), Sl.v b_2_Attrs, Sl.v b_2_Kids]) (hA5.get rfl) rfl) fun a13 w12 B_11 hE14 hN15 hB16 hA13 _ => ?_)
  have hne17 : B_3 ≠ B_11 := Nat.ne_of_lt (Nat.lt_of_lt_of_le hB8.lt hN15.ge)
  have hN18 := New.of hC10 hN15
  have hB19 := hB8.ext hE14
  have hC20 := hC10.more hE14
  have hN21 := hN9.up hE14.size
  refine sq (opk_val hA13 rfl (r_assign rfl) fun a22 hA22 _ => ?_)
  refine sq_end ?_
  have hA23 := hA22.keep [(2, .pointer (some (⟨B_3, 0, none⟩ : Addr))), (3, .pointer (some (⟨B_11, 0, none⟩ : Addr)))] ⟨rfl, rfl, trivial⟩
  refine then_normal ?_
  refine wp_seq ?_
  refine wp_region_lit ?_
  refine sq (opk_val hA23 rfl (r_fieldAddr (hA23.get rfl) Tryz.underlying39 rfl ti_3 (by decide)) fun a24 hA24 _ => ?_)
  refine sq (opk_val hA24 rfl (r_load1 Tryz.underlying3 rfl (hA24.get rfl) (hB19.cell 0 _ rfl)) fun a25 hA25 _ => ?_)
  refine sq (opk_val hA25 rfl (r_fieldAddr (hA25.get rfl) Tryz.underlying39 rfl ti_3 (by decide)) fun a26 hA26 _ => ?_)
  refine sq (opk_val hA26 rfl (r_load1 Tryz.underlying3 rfl (hA26.get rfl) (hB16.cell 0 _ rfl)) fun a27 hA27 _ => ?_)
  refine sq (opk_val hA27 rfl (r_lss (hA27.get rfl) (hA27.get rfl)) fun a28 hA28 _ => ?_)
  refine sq (opk_val hA28 rfl (r_fieldAddr (hA28.get rfl) Tryz.underlying39 rfl ti_3 (by decide)) fun a29 hA29 _ => ?_)
  refine sq (opk_val hA29 rfl (r_load1 Tryz.underlying3 rfl (hA29.get rfl) (hB19.cell 0 _ rfl)) fun a30 hA30 _ => ?_)
  refine sq (opk_val hA30 rfl (r_fieldAddr (hA30.get rfl) Tryz.underlying39 rfl ti_3 (by decide)) fun a31 hA31 _ => ?_)
  refine sq (opk_val hA31 rfl (r_load1 Tryz.underlying3 rfl (hA31.get rfl) (hB16.cell 0 _ rfl)) fun a32 hA32 _ => ?_)
  refine sq (opk_val hA32 rfl (r_gtr (hA32.get rfl) (hA32.get rfl)) fun a33 hA33 _ => ?_)
  have ht34 := ht0 w12 B_3 B_11 hN21 hN18 hne17 hC20
  refine sq (opk_call hA33 rfl (r_call (args := #[.bool (decide (a_1_Kind < b_2_Kind)), .bool (decide (b_2_Kind < a_1_Kind))]) Tryz.func68 (by decide) rfl (map_arr (ml_cons (hA33.get rfl) (ml_cons (hA33.get rfl) ml_nil))) rfl) ht34 fun a36 v42 w37 hA36 _ hn39 hz40 hK41 => ?_)
  obtain ⟨r_35, rfl, ht38⟩ := hK41
  have hB43 := hB19.kept hn39 (.head _)
  have hB44 := hB16.kept hn39 (.tail _ (.head _))
  refine sq (opk_val hA36 rfl (r_assign (hA36.get rfl)) fun a45 hA45 _ => ?_)
  refine sq_end ?_
  have hA46 := hA45.keep [(2, .pointer (some (⟨B_3, 0, none⟩ : Addr))), (3, .pointer (some (⟨B_11, 0, none⟩ : Addr))), (5, .int .i64 r_35)] ⟨rfl, rfl, rfl, trivial⟩
  refine then_normal ?_
  refine wp_seq ?_
  refine wp_seq ?_
  refine wp_region_lit ?_
  refine sq (opk_val hA46 rfl (r_move (hA46.get rfl)) fun a47 hA47 _ => ?_)
  refine sq (opk_val hA47 rfl (r_eql (hA47.get rfl) rfl) fun a48 hA48 _ => ?_)
  refine sq_end ?_
  have hA49 := hA48.keep [(2, .pointer (some (⟨B_3, 0, none⟩ : Addr))), (3, .pointer (some (⟨B_11, 0, none⟩ : Addr))), (5, .int .i64 r_35), (21, .bool (decide (r_35 = 0)))] ⟨rfl, rfl, rfl, rfl, trivial⟩
  refine then_normal ?_
  obtain ⟨J_76, ht77, hr78⟩ := ht38
  refine wp_meet (fun a w => ∃ c_74 : Int, Ag 131 a [(2, .pointer (some (⟨B_3, 0, none⟩ : Addr))), (3, .pointer (some (⟨B_11, 0, none⟩ : Addr))), (5, .int .i64 c_74)] ∧ Box w B_3 39 [.int .i64 a_1_Kind, .string (Bs a_1_Name), .string (Bs a_1_Text), Sl.v a_1_Attrs, Sl.v a_1_Kids] ∧ Box w B_11 39 [.int .i64 b_2_Kind, .string (Bs b_2_Name), .string (Bs b_2_Text), Sl.v b_2_Attrs, Sl.v b_2_Kids] ∧ J_76 c_74 w) ?_ ?_
  · refine wp_cond_split (hA49.get rfl) (fun hc => ?_) (fun hc => ?_)
    · have ht79 := ht77.1 (of_decide_eq_true hc)
      clear hc
      refine wp_region_lit ?_
      refine sq (opk_val hA49 rfl (r_fieldAddr (hA49.get rfl) Tryz.underlying39 rfl ti_9 (by decide)) fun a81 hA81 _ => ?_)
      refine sq (opk_val hA81 rfl (r_load1 Tryz.underlying9 rfl (hA81.get rfl) (hB43.cell 1 _ rfl)) fun a82 hA82 _ => ?_)
      refine sq (opk_val hA82 rfl (r_fieldAddr (hA82.get rfl) Tryz.underlying39 rfl ti_9 (by decide)) fun a83 hA83 _ => ?_)
      refine sq (opk_val hA83 rfl (r_load1 Tryz.underlying9 rfl (hA83.get rfl) (hB44.cell 1 _ rfl)) fun a84 hA84 _ => ?_)
      refine sq (opk_val hA84 rfl (r_slss (hA84.get rfl) (hA84.get rfl)) fun a85 hA85 _ => ?_)
      refine sq (opk_val hA85 rfl (r_fieldAddr (hA85.get rfl) Tryz.underlying39 rfl ti_9 (by decide)) fun a86 hA86 _ => ?_)
      refine sq (opk_val hA86 rfl (r_load1 Tryz.underlying9 rfl (hA86.get rfl) (hB43.cell 1 _ rfl)) fun a87 hA87 _ => ?_)
      refine sq (opk_val hA87 rfl (r_fieldAddr (hA87.get rfl) Tryz.underlying39 rfl ti_9 (by decide)) fun a88 hA88 _ => ?_)
      refine sq (opk_val hA88 rfl (r_load1 Tryz.underlying9 rfl (hA88.get rfl) (hB44.cell 1 _ rfl)) fun a89 hA89 _ => ?_)
      refine sq (opk_val hA89 rfl (r_sgtr (hA89.get rfl) (hA89.get rfl)) fun a90 hA90 _ => ?_)
      refine sq (opk_call hA90 rfl (r_call (args := #[.bool (Op.bytesLess a_1_Name b_2_Name), .bool (!((Op.bytesLess a_1_Name b_2_Name) || (decide (a_1_Name = b_2_Name))))]) Tryz.func68 (by decide) rfl (map_arr (ml_cons (hA90.get rfl) (ml_cons (hA90.get rfl) ml_nil))) rfl) ht79 fun a92 v98 w93 hA92 _ hn95 hz96 hK97 => ?_)
      obtain ⟨r_91, rfl, ht94⟩ := hK97
      have hB99 := hB43.kept hn95 (.head _)
      have hB100 := hB44.kept hn95 (.tail _ (.head _))
      refine sq (opk_val hA92 rfl (r_assign (hA92.get rfl)) fun a101 hA101 _ => ?_)
      refine sq_end ?_
      have hA102 := hA101.keep [(2, .pointer (some (⟨B_3, 0, none⟩ : Addr))), (3, .pointer (some (⟨B_11, 0, none⟩ : Addr))), (5, .int .i64 r_91)] ⟨rfl, rfl, rfl, trivial⟩
      have hA103 := hA102.keep [(2, .pointer (some (⟨B_3, 0, none⟩ : Addr))), (3, .pointer (some (⟨B_11, 0, none⟩ : Addr))), (5, .int .i64 r_91)] ⟨rfl, rfl, rfl, trivial⟩
      exact then_normal ⟨r_91, hA103, hB99, hB100, ht94⟩
    · have ht80 := ht77.2 (of_decide_eq_false hc)
      clear hc
      refine wp_skip ?_
      have hA104 := hA49.keep [(2, .pointer (some (⟨B_3, 0, none⟩ : Addr))), (3, .pointer (some (⟨B_11, 0, none⟩ : Addr))), (5, .int .i64 r_35)] ⟨rfl, rfl, rfl, trivial⟩
      exact then_normal ⟨r_35, hA104, hB43, hB44, ht80⟩
  · intro a105 w75 hm
    obtain ⟨c_74, hA105, hB106, hB107, hJ610⟩ := hm
    have ht108 := hr78 c_74 w75 hJ610
    refine then_normal ?_
    refine wp_seq ?_
    refine wp_seq ?_
    refine wp_region_lit ?_
    refine sq (opk_val hA105 rfl (r_move (hA105.get rfl)) fun a109 hA109 _ => ?_)
    refine sq (opk_val hA109 rfl (r_eql (hA109.get rfl) rfl) fun a110 hA110 _ => ?_)
    refine sq_end ?_
    have hA111 := hA110.keep [(2, .pointer (some (⟨B_3, 0, none⟩ : Addr))), (3, .pointer (some (⟨B_11, 0, none⟩ : Addr))), (5, .int .i64 c_74), (34, .bool (decide (c_74 = 0)))] ⟨rfl, rfl, rfl, rfl, trivial⟩
    refine then_normal ?_
    obtain ⟨J_138, ht139, hr140⟩ := ht108
    refine wp_meet (fun a w => ∃ c_136 : Int, Ag 131 a [(2, .pointer (some (⟨B_3, 0, none⟩ : Addr))), (3, .pointer (some (⟨B_11, 0, none⟩ : Addr))), (5, .int .i64 c_136)] ∧ Box w B_3 39 [.int .i64 a_1_Kind, .string (Bs a_1_Name), .string (Bs a_1_Text), Sl.v a_1_Attrs, Sl.v a_1_Kids] ∧ Box w B_11 39 [.int .i64 b_2_Kind, .string (Bs b_2_Name), .string (Bs b_2_Text), Sl.v b_2_Attrs, Sl.v b_2_Kids] ∧ J_138 c_136 w) ?_ ?_
    · refine wp_cond_split (hA111.get rfl) (fun hc => ?_) (fun hc => ?_)
      · have ht141 := ht139.1 (of_decide_eq_true hc)
        clear hc
        refine wp_region_lit ?_
        refine sq (opk_val hA111 rfl (r_fieldAddr (hA111.get rfl) Tryz.underlying39 rfl ti_9 (by decide)) fun a143 hA143 _ => ?_)
        refine sq (opk_val hA143 rfl (r_load1 Tryz.underlying9 rfl (hA143.get rfl) (hB106.cell 2 _ rfl)) fun a144 hA144 _ => ?_)
        refine sq (opk_val hA144 rfl (r_fieldAddr (hA144.get rfl) Tryz.underlying39 rfl ti_9 (by decide)) fun a145 hA145 _ => ?_)
        refine sq (opk_val hA145 rfl (r_load1 Tryz.underlying9 rfl (hA145.get rfl) (hB107.cell 2 _ rfl)) fun a146 hA146 _ => ?_)
        refine sq (opk_val hA146 rfl (r_slss (hA146.get rfl) (hA146.get rfl)) fun a147 hA147 _ => ?_)
        refine sq (opk_val hA147 rfl (r_fieldAddr (hA147.get rfl) Tryz.underlying39 rfl ti_9 (by decide)) fun a148 hA148 _ => ?_)
        refine sq (opk_val hA148 rfl (r_load1 Tryz.underlying9 rfl (hA148.get rfl) (hB106.cell 2 _ rfl)) fun a149 hA149 _ => ?_)
        refine sq (opk_val hA149 rfl (r_fieldAddr (hA149.get rfl) Tryz.underlying39 rfl ti_9 (by decide)) fun a150 hA150 _ => ?_)
        refine sq (opk_val hA150 rfl (r_load1 Tryz.underlying9 rfl (hA150.get rfl) (hB107.cell 2 _ rfl)) fun a151 hA151 _ => ?_)
        refine sq (opk_val hA151 rfl (r_sgtr (hA151.get rfl) (hA151.get rfl)) fun a152 hA152 _ => ?_)
        refine sq (opk_call hA152 rfl (r_call (args := #[.bool (Op.bytesLess a_1_Text b_2_Text), .bool (!((Op.bytesLess a_1_Text b_2_Text) || (decide (a_1_Text = b_2_Text))))]) Tryz.func68 (by decide) rfl (map_arr (ml_cons (hA152.get rfl) (ml_cons (hA152.get rfl) ml_nil))) rfl) ht141 fun a154 v160 w155 hA154 _ hn157 hz158 hK159 => ?_)
        obtain ⟨r_153, rfl, ht156⟩ := hK159
        have hB161 := hB106.kept hn157 (.head _)
        have hB162 := hB107.kept hn157 (.tail _ (.head _))
        refine sq (opk_val hA154 rfl (r_assign (hA154.get rfl)) fun a163 hA163 _ => ?_)
        refine sq_end ?_
        have hA164 := hA163.keep [(2, .pointer (some (⟨B_3, 0, none⟩ : Addr))), (3, .pointer (some (⟨B_11, 0, none⟩ : Addr))), (5, .int .i64 r_153)] ⟨rfl, rfl, rfl, trivial⟩
        have hA165 := hA164.keep [(2, .pointer (some (⟨B_3, 0, none⟩ : Addr))), (3, .pointer (some (⟨B_11, 0, none⟩ : Addr))), (5, .int .i64 r_153)] ⟨rfl, rfl, rfl, trivial⟩
        exact then_normal ⟨r_153, hA165, hB161, hB162, ht156⟩
      · have ht142 := ht139.2 (of_decide_eq_false hc)
        clear hc
        refine wp_skip ?_
        have hA166 := hA111.keep [(2, .pointer (some (⟨B_3, 0, none⟩ : Addr))), (3, .pointer (some (⟨B_11, 0, none⟩ : Addr))), (5, .int .i64 c_74)] ⟨rfl, rfl, rfl, trivial⟩
        exact then_normal ⟨c_74, hA166, hB106, hB107, ht142⟩
    · intro a167 w137 hm
      obtain ⟨c_136, hA167, hB168, hB169, hJ609⟩ := hm
      have ht170 := hr140 c_136 w137 hJ609
      refine then_normal ?_
      refine wp_seq ?_
      refine wp_seq ?_
      refine wp_region_lit ?_
      refine sq (opk_val hA167 rfl (r_assign rfl) fun a171 hA171 _ => ?_)
      refine sq_end ?_
      have hA172 := hA171.keep [(2, .pointer (some (⟨B_3, 0, none⟩ : Addr))), (3, .pointer (some (⟨B_11, 0, none⟩ : Addr))), (5, .int .i64 c_136), (6, .int .i64 0)] ⟨rfl, rfl, rfl, rfl, trivial⟩
      refine then_normal ?_
      refine wp_block ?_
      obtain ⟨J_176, mu_177, h0376, ht375⟩ := ht170
      refine wp_loop_st (σ := Int × Int × World) (fun s a w => Ag 131 a [(2, .pointer (some (⟨B_3, 0, none⟩ : Addr))), (3, .pointer (some (⟨B_11, 0, none⟩ : Addr))), (5, .int .i64 s.1), (6, .int .i64 s.2.1)] ∧ Box w B_3 39 [.int .i64 a_1_Kind, .string (Bs a_1_Name), .string (Bs a_1_Text), Sl.v a_1_Attrs, Sl.v a_1_Kids] ∧ Box w B_11 39 [.int .i64 b_2_Kind, .string (Bs b_2_Name), .string (Bs b_2_Text), Sl.v b_2_Attrs, Sl.v b_2_Kids] ∧ w = s.2.2 ∧ J_176 s.1 s.2.1 s.2.2) (fun s => mu_177 s.1 s.2.1 s.2.2) (c_136, 0, w137) ⟨hA172.keep [(2, .pointer (some (⟨B_3, 0, none⟩ : Addr))), (3, .pointer (some (⟨B_11, 0, none⟩ : Addr))), (5, .int .i64 c_136), (6, .int .i64 0)] ⟨rfl, rfl, rfl, rfl, trivial⟩, hB168, hB169, rfl, h0376⟩ ?_
      rintro ⟨c_173, i_174, w175⟩ a372 w_ ⟨hA372, hB373, hB374, hw_, hJ378⟩
      have hw_ : w175 = w_ := hw_.symm
      subst hw_
      have ht377 := ht375 c_173 i_174 _ hJ378
      refine wp_seq ?_
      refine wp_seq ?_
      refine wp_region_lit ?_
      refine sq (opk_val hA372 rfl (r_move (hA372.get rfl)) fun a379 hA379 _ => ?_)
      refine sq (opk_val hA379 rfl (r_eql (hA379.get rfl) rfl) fun a380 hA380 _ => ?_)
      refine sq (opk_val hA380 rfl (r_move (hA380.get rfl)) fun a381 hA381 _ => ?_)
      refine sq (opk_gval hA381 rfl rfl (g := true) (e := (decide (c_173 = 0))) rfl (fun hg => r_move (hA381.get rfl)) fun a382 hA382 _ => ?_)
      refine sq (opk_gval hA382 rfl rfl (g := true) (e := (decide (c_173 = 0))) rfl (fun hg => r_fieldAddr (hA382.get rfl) Tryz.underlying39 rfl ti_36 (by decide)) fun a383 hA383 _ => ?_)
      refine sq (opk_gval hA383 rfl rfl (g := true) (e := (decide (c_173 = 0))) rfl (fun hg => r_load1 Tryz.underlying36 rfl (cv_get (hA383.get rfl) hg) (hB373.cell 3 _ rfl)) fun a384 hA384 _ => ?_)
      refine sq (opk_gval hA384 rfl rfl (g := true) (e := (decide (c_173 = 0))) rfl (fun hg => r_len (cv_get (hA384.get rfl) hg) Tryz.underlying36) fun a385 hA385 _ => ?_)
      refine sq (opk_gval hA385 rfl rfl (g := true) (e := (decide (c_173 = 0))) rfl (fun hg => r_lss (cv_get (hA385.get rfl) hg) (cv_get (hA385.get rfl) hg)) fun a386 hA386 _ => ?_)
      refine sq (opk_val hA386 rfl (r_pick_and (g := (true && ((decide (c_173 = 0)) == true))) (hA386.get rfl) (hA386.get rfl) (fun he => g_mkt rfl he)) fun a387 hA387 _ => ?_)
      refine sq (opk_val hA387 rfl (r_move (hA387.get rfl)) fun a388 hA388 _ => ?_)
      refine sq (opk_gval hA388 rfl rfl (g := true) (e := ((decide (c_173 = 0)) && (decide (i_174 < (a_1_Attrs.n : Int))))) rfl (fun hg => r_move (hA388.get rfl)) fun a389 hA389 _ => ?_)
      refine sq (opk_gval hA389 rfl rfl (g := true) (e := ((decide (c_173 = 0)) && (decide (i_174 < (a_1_Attrs.n : Int))))) rfl (fun hg => r_fieldAddr (hA389.get rfl) Tryz.underlying39 rfl ti_36 (by decide)) fun a390 hA390 _ => ?_)
      refine sq (opk_gval hA390 rfl rfl (g := true) (e := ((decide (c_173 = 0)) && (decide (i_174 < (a_1_Attrs.n : Int))))) rfl (fun hg => r_load1 Tryz.underlying36 rfl (cv_get (hA390.get rfl) hg) (hB374.cell 3 _ rfl)) fun a391 hA391 _ => ?_)
      refine sq (opk_gval hA391 rfl rfl (g := true) (e := ((decide (c_173 = 0)) && (decide (i_174 < (a_1_Attrs.n : Int))))) rfl (fun hg => r_len (cv_get (hA391.get rfl) hg) Tryz.underlying36) fun a392 hA392 _ => ?_)
      refine sq (opk_gval hA392 rfl rfl (g := true) (e := ((decide (c_173 = 0)) && (decide (i_174 < (a_1_Attrs.n : Int))))) rfl (fun hg => r_lss (cv_get (hA392.get rfl) hg) (cv_get (hA392.get rfl) hg)) fun a393 hA393 _ => ?_)
      refine sq (opk_val hA393 rfl (r_pick_and (g := (true && (((decide (c_173 = 0)) && (decide (i_174 < (a_1_Attrs.n : Int)))) == true))) (hA393.get rfl) (hA393.get rfl) (fun he => g_mkt rfl he)) fun a394 hA394 _ => ?_)
      refine sq_end ?_
      have hA395 := hA394.keep [(2, .pointer (some (⟨B_3, 0, none⟩ : Addr))), (3, .pointer (some (⟨B_11, 0, none⟩ : Addr))), (5, .int .i64 c_173), (6, .int .i64 i_174), (61, .bool (((decide (c_173 = 0)) && (decide (i_174 < (a_1_Attrs.n : Int)))) && (decide (i_174 < (b_2_Attrs.n : Int)))))] ⟨rfl, rfl, rfl, rfl, rfl, trivial⟩
      refine then_normal ?_
      refine wp_cond_split (hA395.get rfl) (fun hc => ?_) (fun hc => ?_)
      · have ht396 := ht377.1 ⟨⟨(of_decide_eq_true (b_and_t (b_and_t hc).1).1), (of_decide_eq_true (b_and_t (b_and_t hc).1).2)⟩, (of_decide_eq_true (b_and_t hc).2)⟩
        clear hc
        refine wp_skip ?_
        refine then_normal ?_
        refine wp_seq ?_
        refine wp_block ?_
        refine wp_seq ?_
        refine draw' (by kernel_rfl) fun w398 hE399 => ?_
        have hB400 := hB373.ext hE399
        have hB401 := hB374.ext hE399
        have hC402 : Chg [] w175 w398 := hE399
        have ht403 := ht396 w398    hC402
        obtain ⟨p_404, hp405, ht406⟩ := ht403
        obtain ⟨x_407_Name, x_407_Value, hx408, ht409⟩ := ht406
        obtain ⟨p_410, hp411, ht412⟩ := ht409
        obtain ⟨x_413_Name, x_413_Value, hx414, ht415⟩ := ht412
        refine startF (D := [[], [0], [], [0, 1, 2], [0, 1, 2, 3], [], [5], [], [5, 6, 7], [5, 6, 7, 8], [], [], [0, 1, 2, 3, 4, 10, 11], [0, 1, 2, 3, 4, 5, 6, 7, 8, 9, 10, 11, 12]]) (Fs := [0, 1, 2, 3, 4, 5, 6, 7, 8, 9]) (Ef := [(0, fun v _ => v = .pointer (some (⟨B_3, 3, none⟩ : Addr))), (1, fun v _ => v = Sl.v a_1_Attrs), (2, fun v _ => v = .int .i64 i_174), (3, fun v _ => v = .pointer (some (p_404.add (i_174.toNat * 2)))), (4, fun v _ => v = .agg #[.string (Bs x_407_Name), .string (Bs x_407_Value)]), (5, fun v _ => v = .pointer (some (⟨B_11, 3, none⟩ : Addr))), (6, fun v _ => v = Sl.v b_2_Attrs), (7, fun v _ => v = .int .i64 i_174), (8, fun v _ => v = .pointer (some (p_410.add (i_174.toNat * 2)))), (9, fun v _ => v = .agg #[.string (Bs x_413_Name), .string (Bs x_413_Value)])]) (by kernel_rfl) ?_
        refine parFN (D := [[], [0], [], [0, 1, 2], [0, 1, 2, 3], [], [5], [], [5, 6, 7], [5, 6, 7, 8], [], [], [0, 1, 2, 3, 4, 10, 11], [0, 1, 2, 3, 4, 5, 6, 7, 8, 9, 10, 11, 12]]) (S := [10, 11]) (F := []) (KE := [10, 11]) (N := [10, 11]) (E := [(10, fun v w' => ∃ B_416 : Nat, w398.heap.size ≤ B_416 ∧ Box w' B_416 91 [.string (Bs ([] : Str)), .string (Bs ([] : Str))] ∧ v = .pointer (some (⟨B_416, 0, none⟩ : Addr))), (11, fun v w' => ∃ B_421 : Nat, w398.heap.size ≤ B_421 ∧ Box w' B_421 91 [.string (Bs ([] : Str)), .string (Bs ([] : Str))] ∧ v = .pointer (some (⟨B_421, 0, none⟩ : Addr)))]) hA395 rfl (by kernel_rfl) (blkF ⟨fun _ _ h => by obtain ⟨B_416, _, hB, rfl⟩ := h; exact hB.lt, fun _ _ h => by obtain ⟨B_421, _, hB, rfl⟩ := h; exact hB.lt, trivial⟩) ⟨fun _ _ _ hE ⟨B_416, h0_, h1_, e⟩ => ⟨B_416, h0_, (h1_.ext hE), e⟩, fun _ _ _ hE ⟨B_421, h0_, h1_, e⟩ => ⟨B_421, h0_, (h1_.ext hE), e⟩, fun _ _ _ _ h => by first | exact h | (change _ = _ at h; change _ = _; exact h), fun _ _ _ _ h => by first | exact h | (change _ = _ at h; change _ = _; exact h), fun _ _ _ _ h => by first | exact h | (change _ = _ at h; change _ = _; exact h), fun _ _ _ _ h => by first | exact h | (change _ = _ at h; change _ = _; exact h), fun _ _ _ _ h => by first | exact h | (change _ = _ at h; change _ = _; exact h), fun _ _ _ _ h => by first | exact h | (change _ = _ at h; change _ = _; exact h), fun _ _ _ _ h => by first | exact h | (change _ = _ at h; change _ = _; exact h), fun _ _ _ _ h => by first | exact h | (change _ = _ at h; change _ = _; exact h), fun _ _ _ _ h => by first | exact h | (change _ = _ at h; change _ = _; exact h), fun _ _ _ _ h => by first | exact h | (change _ = _ at h; change _ = _; exact h), trivial⟩ ⟨?_, ?_, ?_, ?_, ?_, ?_, ?_, ?_, ?_, ?_, ?_, ?_, trivial⟩ ?_
        · intro a w hT
          have hAp := hT.ag hA395 [] trivial (by kernel_rfl)
          exact opk_new (fun B => .pointer (some ⟨B, 0, none⟩)) hAp rfl (r_alloc (cs := [.string (Bs ([] : Str)), .string (Bs ([] : Str))]) ti_91 rfl) fun _ w417 B_416 hE418 hN419 hB420 _ e => ⟨_, e, hE418, fun _ => ⟨B_416, Nat.le_trans hT.chg.size hN419.ge, hB420, rfl⟩, fun _ => hN419.ge⟩
        · intro a w hT
          have hAp := hT.ag hA395 [] trivial (by kernel_rfl)
          exact opk_new (fun B => .pointer (some ⟨B, 0, none⟩)) hAp rfl (r_alloc (cs := [.string (Bs ([] : Str)), .string (Bs ([] : Str))]) ti_91 rfl) fun _ w422 B_421 hE423 hN424 hB425 _ e => ⟨_, e, hE423, fun _ => ⟨B_421, Nat.le_trans hT.chg.size hN424.ge, hB425, rfl⟩, fun _ => hN424.ge⟩
        · intro a w hT
          refine overN_of rfl ?_
          have hAp := hT.ag hA395 [(2, .pointer (some (⟨B_3, 0, none⟩ : Addr)))] ⟨rfl, trivial⟩ (by kernel_rfl)
          exact opk_val hAp rfl (r_fieldAddr (hAp.get rfl) Tryz.underlying39 rfl ti_36 (by decide)) fun _ _ e => ⟨_, e, Chg.refl _ _, fun _ => Eq.refl _⟩
        · intro a w hT
          refine overN_of rfl ?_
          have hAp := hT.ag hA395 [] trivial (by kernel_rfl)
          have e426 : a.tmps.getD 64 undef = .pointer (some (⟨B_3, 3, none⟩ : Addr)) := hT.vals 0 rfl 64 rfl
          have hAp := hAp.add e426
          exact opk_val hAp rfl (r_load1 Tryz.underlying36 rfl (hAp.get rfl) ((hB400.ext hT.chg).cell 3 _ rfl)) fun _ _ e => ⟨_, e, Chg.refl _ _, fun _ => Eq.refl _⟩
        · intro a w hT
          refine overN_of rfl ?_
          have hAp := hT.ag hA395 [(6, .int .i64 i_174)] ⟨rfl, trivial⟩ (by kernel_rfl)
          exact opk_val hAp rfl (r_move (hAp.get rfl)) fun _ _ e => ⟨_, e, Chg.refl _ _, fun _ => Eq.refl _⟩
        · intro a w hT
          refine overN_of rfl ?_
          have hAp := hT.ag hA395 [] trivial (by kernel_rfl)
          have e427 : a.tmps.getD 65 undef = Sl.v a_1_Attrs := hT.vals 1 rfl 65 rfl
          have hAp := hAp.add e427
          have e428 : a.tmps.getD 66 undef = .int .i64 i_174 := hT.vals 2 rfl 66 rfl
          have hAp := hAp.add e428
          exact opk_val hAp rfl (r_indexAddr (hAp.get rfl) (hAp.get rfl) Tryz.underlying36 ti_91 hp405.1 hp405.2) fun _ _ e => ⟨_, e, Chg.refl _ _, fun _ => Eq.refl _⟩
        · intro a w hT
          refine overN_of rfl ?_
          have hAp := hT.ag hA395 [] trivial (by kernel_rfl)
          have e429 : a.tmps.getD 67 undef = .pointer (some (p_404.add (i_174.toNat * 2))) := hT.vals 3 rfl 67 rfl
          have hAp := hAp.add e429
          exact opk_val hAp rfl (r_loadN Tryz.underlying91 rfl ti_91 (hAp.get rfl) (hx408.ext hT.chg)) fun _ _ e => ⟨_, e, Chg.refl _ _, fun _ => Eq.refl _⟩
        · intro a w hT
          refine overN_of rfl ?_
          have hAp := hT.ag hA395 [(3, .pointer (some (⟨B_11, 0, none⟩ : Addr)))] ⟨rfl, trivial⟩ (by kernel_rfl)
          exact opk_val hAp rfl (r_fieldAddr (hAp.get rfl) Tryz.underlying39 rfl ti_36 (by decide)) fun _ _ e => ⟨_, e, Chg.refl _ _, fun _ => Eq.refl _⟩
        · intro a w hT
          refine overN_of rfl ?_
          have hAp := hT.ag hA395 [] trivial (by kernel_rfl)
          have e430 : a.tmps.getD 69 undef = .pointer (some (⟨B_11, 3, none⟩ : Addr)) := hT.vals 5 rfl 69 rfl
          have hAp := hAp.add e430
          exact opk_val hAp rfl (r_load1 Tryz.underlying36 rfl (hAp.get rfl) ((hB401.ext hT.chg).cell 3 _ rfl)) fun _ _ e => ⟨_, e, Chg.refl _ _, fun _ => Eq.refl _⟩
        · intro a w hT
          refine overN_of rfl ?_
          have hAp := hT.ag hA395 [(6, .int .i64 i_174)] ⟨rfl, trivial⟩ (by kernel_rfl)
          exact opk_val hAp rfl (r_move (hAp.get rfl)) fun _ _ e => ⟨_, e, Chg.refl _ _, fun _ => Eq.refl _⟩
        · intro a w hT
          refine overN_of rfl ?_
          have hAp := hT.ag hA395 [] trivial (by kernel_rfl)
          have e431 : a.tmps.getD 70 undef = Sl.v b_2_Attrs := hT.vals 6 rfl 70 rfl
          have hAp := hAp.add e431
          have e432 : a.tmps.getD 71 undef = .int .i64 i_174 := hT.vals 7 rfl 71 rfl
          have hAp := hAp.add e432
          exact opk_val hAp rfl (r_indexAddr (hAp.get rfl) (hAp.get rfl) Tryz.underlying36 ti_91 hp411.1 hp411.2) fun _ _ e => ⟨_, e, Chg.refl _ _, fun _ => Eq.refl _⟩
        · intro a w hT
          refine overN_of rfl ?_
          have hAp := hT.ag hA395 [] trivial (by kernel_rfl)
          have e433 : a.tmps.getD 72 undef = .pointer (some (p_410.add (i_174.toNat * 2))) := hT.vals 8 rfl 72 rfl
          have hAp := hAp.add e433
          exact opk_val hAp rfl (r_loadN Tryz.underlying91 rfl ti_91 (hAp.get rfl) (hx414.ext hT.chg)) fun _ _ e => ⟨_, e, Chg.refl _ _, fun _ => Eq.refl _⟩
        · intro a434 w435 hE436 hag437 hv438 hap439
          have hA434 := hag437 [(2, .pointer (some (⟨B_3, 0, none⟩ : Addr))), (3, .pointer (some (⟨B_11, 0, none⟩ : Addr))), (6, .int .i64 i_174)] ⟨rfl, rfl, rfl, trivial⟩ (by kernel_rfl)
          obtain ⟨B_416, hf442, hf443, e440⟩ := hv438 10 rfl 7 rfl
          have hA441 := hA434.add e440
          obtain ⟨B_421, hf446, hf447, e444⟩ := hv438 11 rfl 8 rfl
          have hA445 := hA441.add e444
          have hne448 : B_416 ≠ B_421 := by have h := hap439 10 11 rfl 7 8 rfl rfl; rw [e440, e444] at h; exact h
          have hB449 := hB400.ext hE436
          have hB450 := hB401.ext hE436
          have hC451 : Chg [] w398 w435 := hE436
          have hf452 := hx408.ext hE436
          have hf453 := hx414.ext hE436
          have ht454 := ht415 w435 B_416 B_421 hE436 hf442 hf443 hf446 hf447
          have hne455 : B_3 ≠ B_416 := Nat.ne_of_lt (Nat.lt_of_lt_of_le hB400.lt hf442)
          have hne456 : B_11 ≠ B_416 := Nat.ne_of_lt (Nat.lt_of_lt_of_le hB401.lt hf442)
          have hne457 : B_3 ≠ B_421 := Nat.ne_of_lt (Nat.lt_of_lt_of_le hB400.lt hf446)
          have hne458 : B_11 ≠ B_421 := Nat.ne_of_lt (Nat.lt_of_lt_of_le hB401.lt hf446)
          refine oneF (c := 12) hA445 rfl (by kernel_rfl) (constF ⟨fun _ _ _ h => by first | exact h | (change _ = _ at h; change _ = _; exact h), fun _ _ _ h => by first | exact h | (change _ = _ at h; change _ = _; exact h), fun _ _ _ h => by first | exact h | (change _ = _ at h; change _ = _; exact h), fun _ _ _ h => by first | exact h | (change _ = _ at h; change _ = _; exact h), fun _ _ _ h => by first | exact h | (change _ = _ at h; change _ = _; exact h), fun _ _ _ h => by first | exact h | (change _ = _ at h; change _ = _; exact h), fun _ _ _ h => by first | exact h | (change _ = _ at h; change _ = _; exact h), fun _ _ _ h => by first | exact h | (change _ = _ at h; change _ = _; exact h), fun _ _ _ h => by first | exact h | (change _ = _ at h; change _ = _; exact h), fun _ _ _ h => by first | exact h | (change _ = _ at h; change _ = _; exact h), trivial⟩) ⟨?_, ?_, ?_, ?_, ?_, ?_, ?_, ?_, ?_, ?_, trivial⟩ ?_
          · intro a hT
            have hAp := hT.ag hA445 [(2, .pointer (some (⟨B_3, 0, none⟩ : Addr)))] ⟨rfl, trivial⟩ (by kernel_rfl)
            exact opk_val hAp rfl (r_fieldAddr (hAp.get rfl) Tryz.underlying39 rfl ti_36 (by decide)) fun _ _ e => ⟨_, e, rfl, fun _ => Eq.refl _⟩
          · intro a hT
            have hAp := hT.ag hA445 [] trivial (by kernel_rfl)
            have e459 : a.tmps.getD 64 undef = .pointer (some (⟨B_3, 3, none⟩ : Addr)) := hT.vals 0 rfl 64 rfl
            have hAp := hAp.add e459
            exact opk_val hAp rfl (r_load1 Tryz.underlying36 rfl (hAp.get rfl) ((hB449.ext hT.chg).cell 3 _ rfl)) fun _ _ e => ⟨_, e, rfl, fun _ => Eq.refl _⟩
          · intro a hT
            have hAp := hT.ag hA445 [(6, .int .i64 i_174)] ⟨rfl, trivial⟩ (by kernel_rfl)
            exact opk_val hAp rfl (r_move (hAp.get rfl)) fun _ _ e => ⟨_, e, rfl, fun _ => Eq.refl _⟩
          · intro a hT
            have hAp := hT.ag hA445 [] trivial (by kernel_rfl)
            have e460 : a.tmps.getD 65 undef = Sl.v a_1_Attrs := hT.vals 1 rfl 65 rfl
            have hAp := hAp.add e460
            have e461 : a.tmps.getD 66 undef = .int .i64 i_174 := hT.vals 2 rfl 66 rfl
            have hAp := hAp.add e461
            exact opk_val hAp rfl (r_indexAddr (hAp.get rfl) (hAp.get rfl) Tryz.underlying36 ti_91 hp405.1 hp405.2) fun _ _ e => ⟨_, e, rfl, fun _ => Eq.refl _⟩
          · intro a hT
            have hAp := hT.ag hA445 [] trivial (by kernel_rfl)
            have e462 : a.tmps.getD 67 undef = .pointer (some (p_404.add (i_174.toNat * 2))) := hT.vals 3 rfl 67 rfl
            have hAp := hAp.add e462
            exact opk_val hAp rfl (r_loadN Tryz.underlying91 rfl ti_91 (hAp.get rfl) (hf452.ext hT.chg)) fun _ _ e => ⟨_, e, rfl, fun _ => Eq.refl _⟩
          · intro a hT
            have hAp := hT.ag hA445 [(3, .pointer (some (⟨B_11, 0, none⟩ : Addr)))] ⟨rfl, trivial⟩ (by kernel_rfl)
            exact opk_val hAp rfl (r_fieldAddr (hAp.get rfl) Tryz.underlying39 rfl ti_36 (by decide)) fun _ _ e => ⟨_, e, rfl, fun _ => Eq.refl _⟩
          · intro a hT
            have hAp := hT.ag hA445 [] trivial (by kernel_rfl)
            have e463 : a.tmps.getD 69 undef = .pointer (some (⟨B_11, 3, none⟩ : Addr)) := hT.vals 5 rfl 69 rfl
            have hAp := hAp.add e463
            exact opk_val hAp rfl (r_load1 Tryz.underlying36 rfl (hAp.get rfl) ((hB450.ext hT.chg).cell 3 _ rfl)) fun _ _ e => ⟨_, e, rfl, fun _ => Eq.refl _⟩
          · intro a hT
            have hAp := hT.ag hA445 [(6, .int .i64 i_174)] ⟨rfl, trivial⟩ (by kernel_rfl)
            exact opk_val hAp rfl (r_move (hAp.get rfl)) fun _ _ e => ⟨_, e, rfl, fun _ => Eq.refl _⟩
          · intro a hT
            have hAp := hT.ag hA445 [] trivial (by kernel_rfl)
            have e464 : a.tmps.getD 70 undef = Sl.v b_2_Attrs := hT.vals 6 rfl 70 rfl
            have hAp := hAp.add e464
            have e465 : a.tmps.getD 71 undef = .int .i64 i_174 := hT.vals 7 rfl 71 rfl
            have hAp := hAp.add e465
            exact opk_val hAp rfl (r_indexAddr (hAp.get rfl) (hAp.get rfl) Tryz.underlying36 ti_91 hp411.1 hp411.2) fun _ _ e => ⟨_, e, rfl, fun _ => Eq.refl _⟩
          · intro a hT
            have hAp := hT.ag hA445 [] trivial (by kernel_rfl)
            have e466 : a.tmps.getD 72 undef = .pointer (some (p_410.add (i_174.toNat * 2))) := hT.vals 8 rfl 72 rfl
            have hAp := hAp.add e466
            exact opk_val hAp rfl (r_loadN Tryz.underlying91 rfl ti_91 (hAp.get rfl) (hf453.ext hT.chg)) fun _ _ e => ⟨_, e, rfl, fun _ => Eq.refl _⟩
          · intro a467 hT
            have hA467 := hT.ag hA445 [(2, .pointer (some (⟨B_3, 0, none⟩ : Addr))), (3, .pointer (some (⟨B_11, 0, none⟩ : Addr))), (6, .int .i64 i_174), (7, .pointer (some (⟨B_416, 0, none⟩ : Addr))), (8, .pointer (some (⟨B_421, 0, none⟩ : Addr)))] ⟨rfl, rfl, rfl, rfl, rfl, trivial⟩ (by kernel_rfl)
            have e468 : a467.tmps.getD 68 undef = .agg #[.string (Bs x_407_Name), .string (Bs x_407_Value)] := hT.vals 4 rfl 68 rfl
            have hA469 := hA467.add e468
            refine opk_storeF hA469 hf443 (r_store (vs := [.string (Bs x_407_Name), .string (Bs x_407_Value)]) (hA469.get rfl) (hA469.get rfl) rfl ti_91 hf443 rfl (ones_all [.string (Bs x_407_Name), .string (Bs x_407_Value)] rfl)) fun w470 hS472 hB473 hA471 => ⟨undef, Eq.refl _, ?_⟩
            have hB474 : Box w470 B_416 91 [.string (Bs x_407_Name), .string (Bs x_407_Value)] := hB473
            have hB475 := hB449.keep hS472 (by simpa using hne455)
            have hB476 := hB450.keep hS472 (by simpa using hne456)
            have hB477 := hf447.keep hS472 (by simpa using hne448.symm)
            have hC478 : Chg [B_416] w435 w470 := hS472
            have hf479 := hf452.chg hS472 (Cells.apart hx408 hf442)
            have hf480 := hf453.chg hS472 (Cells.apart hx414 hf442)
            refine PRF_drop (X := [0, 1, 2, 3, 4]) (Fs' := [5, 6, 7, 8, 9]) hA471 (by kernel_rfl) fun a481 hag482 hv483 => ?_
            have hA481 := hag482 [(2, .pointer (some (⟨B_3, 0, none⟩ : Addr))), (3, .pointer (some (⟨B_11, 0, none⟩ : Addr))), (6, .int .i64 i_174), (7, .pointer (some (⟨B_416, 0, none⟩ : Addr))), (8, .pointer (some (⟨B_421, 0, none⟩ : Addr)))] ⟨rfl, rfl, rfl, rfl, rfl, trivial⟩ (by kernel_rfl)
            refine joinF hA481 (by kernel_rfl) ⟨fun _ _ _ _ h => by first | exact h | (change _ = _ at h; change _ = _; exact h), fun _ _ _ _ h => by first | exact h | (change _ = _ at h; change _ = _; exact h), fun _ _ _ _ h => by first | exact h | (change _ = _ at h; change _ = _; exact h), fun _ _ _ _ h => by first | exact h | (change _ = _ at h; change _ = _; exact h), fun _ _ _ _ h => by first | exact h | (change _ = _ at h; change _ = _; exact h), trivial⟩ ⟨?_, ?_, ?_, ?_, ?_, trivial⟩ ?_
            · intro a w hT
              have hAp := hT.ag hA481 [(3, .pointer (some (⟨B_11, 0, none⟩ : Addr)))] ⟨rfl, trivial⟩ (by kernel_rfl)
              exact opk_val hAp rfl (r_fieldAddr (hAp.get rfl) Tryz.underlying39 rfl ti_36 (by decide)) fun _ _ e => ⟨_, e, Chg.refl _ _, fun _ => Eq.refl _⟩
            · intro a w hT
              have hAp := hT.ag hA481 [] trivial (by kernel_rfl)
              have e484 : a.tmps.getD 69 undef = .pointer (some (⟨B_11, 3, none⟩ : Addr)) := hT.vals 5 rfl 69 rfl
              have hAp := hAp.add e484
              exact opk_val hAp rfl (r_load1 Tryz.underlying36 rfl (hAp.get rfl) ((hB476.ext hT.chg).cell 3 _ rfl)) fun _ _ e => ⟨_, e, Chg.refl _ _, fun _ => Eq.refl _⟩
            · intro a w hT
              have hAp := hT.ag hA481 [(6, .int .i64 i_174)] ⟨rfl, trivial⟩ (by kernel_rfl)
              exact opk_val hAp rfl (r_move (hAp.get rfl)) fun _ _ e => ⟨_, e, Chg.refl _ _, fun _ => Eq.refl _⟩
            · intro a w hT
              have hAp := hT.ag hA481 [] trivial (by kernel_rfl)
              have e485 : a.tmps.getD 70 undef = Sl.v b_2_Attrs := hT.vals 6 rfl 70 rfl
              have hAp := hAp.add e485
              have e486 : a.tmps.getD 71 undef = .int .i64 i_174 := hT.vals 7 rfl 71 rfl
              have hAp := hAp.add e486
              exact opk_val hAp rfl (r_indexAddr (hAp.get rfl) (hAp.get rfl) Tryz.underlying36 ti_91 hp411.1 hp411.2) fun _ _ e => ⟨_, e, Chg.refl _ _, fun _ => Eq.refl _⟩
            · intro a w hT
              have hAp := hT.ag hA481 [] trivial (by kernel_rfl)
              have e487 : a.tmps.getD 72 undef = .pointer (some (p_410.add (i_174.toNat * 2))) := hT.vals 8 rfl 72 rfl
              have hAp := hAp.add e487
              exact opk_val hAp rfl (r_loadN Tryz.underlying91 rfl ti_91 (hAp.get rfl) (hf480.ext hT.chg)) fun _ _ e => ⟨_, e, Chg.refl _ _, fun _ => Eq.refl _⟩
            · intro a488 w489 hE490 hag491 hv492
              have hA488 := hag491 [(2, .pointer (some (⟨B_3, 0, none⟩ : Addr))), (3, .pointer (some (⟨B_11, 0, none⟩ : Addr))), (6, .int .i64 i_174), (7, .pointer (some (⟨B_416, 0, none⟩ : Addr))), (8, .pointer (some (⟨B_421, 0, none⟩ : Addr)))] ⟨rfl, rfl, rfl, rfl, rfl, trivial⟩ (by kernel_rfl)
              have e493 : a488.tmps.getD 73 undef = .agg #[.string (Bs x_413_Name), .string (Bs x_413_Value)] := hv492 9 rfl 73 rfl
              have hA494 := hA488.add e493
              have hB495 := hB475.ext hE490
              have hB496 := hB476.ext hE490
              have hB497 := hB474.ext hE490
              have hB498 := hB477.ext hE490
              have hC499 := hC478.more hE490
              have hf500 := hf480.ext hE490
              refine one (D := [[], [0], [], [0, 1, 2], [0, 1, 2, 3], [], [5], [], [5, 6, 7], [5, 6, 7, 8], [], [], [0, 1, 2, 3, 4, 10, 11], [0, 1, 2, 3, 4, 5, 6, 7, 8, 9, 10, 11, 12]]) (i := 13) rfl (by kernel_rfl) (opk_store hA494 hB498 (r_store (vs := [.string (Bs x_413_Name), .string (Bs x_413_Value)]) (hA494.get rfl) (hA494.get rfl) rfl ti_91 hB498 rfl (ones_all [.string (Bs x_413_Name), .string (Bs x_413_Value)] rfl)) fun a502 w501 hS503 hB504 hA502 => ?_)
              have hB505 : Box w501 B_421 91 [.string (Bs x_413_Name), .string (Bs x_413_Value)] := hB504
              have hB506 := hB495.keep hS503 (by simpa using hne457)
              have hB507 := hB496.keep hS503 (by simpa using hne458)
              have hB508 := hB497.keep hS503 (by simpa using hne448)
              have hC509 := hC499.storeOld hS503
              refine PR_end (by kernel_rfl) ?_
              have hA510 := hA502.keep [(2, .pointer (some (⟨B_3, 0, none⟩ : Addr))), (3, .pointer (some (⟨B_11, 0, none⟩ : Addr))), (6, .int .i64 i_174), (7, .pointer (some (⟨B_416, 0, none⟩ : Addr))), (8, .pointer (some (⟨B_421, 0, none⟩ : Addr)))] ⟨rfl, rfl, rfl, rfl, rfl, trivial⟩
              refine then_normal ?_
              refine wp_region_lit ?_
              refine sq (opk_val hA510 rfl (r_fieldAddr (hA510.get rfl) Tryz.underlying91 rfl ti_9 (by decide)) fun a511 hA511 _ => ?_)
              refine sq (opk_val hA511 rfl (r_load1 Tryz.underlying9 rfl (hA511.get rfl) (hB508.cell 0 _ rfl)) fun a512 hA512 _ => ?_)
              refine sq (opk_val hA512 rfl (r_fieldAddr (hA512.get rfl) Tryz.underlying91 rfl ti_9 (by decide)) fun a513 hA513 _ => ?_)
              refine sq (opk_val hA513 rfl (r_load1 Tryz.underlying9 rfl (hA513.get rfl) (hB505.cell 0 _ rfl)) fun a514 hA514 _ => ?_)
              refine sq (opk_val hA514 rfl (r_slss (hA514.get rfl) (hA514.get rfl)) fun a515 hA515 _ => ?_)
              refine sq (opk_val hA515 rfl (r_move (hA515.get rfl)) fun a516 hA516 _ => ?_)
              refine sq (opk_gval hA516 rfl rfl (g := true) (e := (Op.bytesLess x_407_Name x_413_Name)) rfl (fun hg => r_fieldAddr (hA516.get rfl) Tryz.underlying91 rfl ti_9 (by decide)) fun a517 hA517 _ => ?_)
              refine sq (opk_gval hA517 rfl rfl (g := true) (e := (Op.bytesLess x_407_Name x_413_Name)) rfl (fun hg => r_load1 Tryz.underlying9 rfl (cv_get (hA517.get rfl) hg) (hB508.cell 0 _ rfl)) fun a518 hA518 _ => ?_)
              refine sq (opk_gval hA518 rfl rfl (g := true) (e := (Op.bytesLess x_407_Name x_413_Name)) rfl (fun hg => r_fieldAddr (hA518.get rfl) Tryz.underlying91 rfl ti_9 (by decide)) fun a519 hA519 _ => ?_)
              refine sq (opk_gval hA519 rfl rfl (g := true) (e := (Op.bytesLess x_407_Name x_413_Name)) rfl (fun hg => r_load1 Tryz.underlying9 rfl (cv_get (hA519.get rfl) hg) (hB505.cell 0 _ rfl)) fun a520 hA520 _ => ?_)
              refine sq (opk_gval hA520 rfl rfl (g := true) (e := (Op.bytesLess x_407_Name x_413_Name)) rfl (fun hg => r_seql (cv_get (hA520.get rfl) hg) (cv_get (hA520.get rfl) hg)) fun a521 hA521 _ => ?_)
              refine sq (opk_gval hA521 rfl rfl (g := true) (e := (Op.bytesLess x_407_Name x_413_Name)) rfl (fun hg => r_move (cv_get (hA521.get rfl) hg)) fun a522 hA522 _ => ?_)
              refine sq (opk_gval hA522 rfl rfl (g := (true && ((Op.bytesLess x_407_Name x_413_Name) == false))) (e := (decide (x_407_Name = x_413_Name))) rfl (fun hg => r_fieldAddr (hA522.get rfl) Tryz.underlying91 rfl ti_9 (by decide)) fun a523 hA523 _ => ?_)
              refine sq (opk_gval hA523 rfl rfl (g := (true && ((Op.bytesLess x_407_Name x_413_Name) == false))) (e := (decide (x_407_Name = x_413_Name))) rfl (fun hg => r_load1 Tryz.underlying9 rfl (cv_get (hA523.get rfl) hg) (hB508.cell 1 _ rfl)) fun a524 hA524 _ => ?_)
              refine sq (opk_gval hA524 rfl rfl (g := (true && ((Op.bytesLess x_407_Name x_413_Name) == false))) (e := (decide (x_407_Name = x_413_Name))) rfl (fun hg => r_fieldAddr (hA524.get rfl) Tryz.underlying91 rfl ti_9 (by decide)) fun a525 hA525 _ => ?_)
              refine sq (opk_gval hA525 rfl rfl (g := (true && ((Op.bytesLess x_407_Name x_413_Name) == false))) (e := (decide (x_407_Name = x_413_Name))) rfl (fun hg => r_load1 Tryz.underlying9 rfl (cv_get (hA525.get rfl) hg) (hB505.cell 1 _ rfl)) fun a526 hA526 _ => ?_)
              refine sq (opk_gval hA526 rfl rfl (g := (true && ((Op.bytesLess x_407_Name x_413_Name) == false))) (e := (decide (x_407_Name = x_413_Name))) rfl (fun hg => r_slss (cv_get (hA526.get rfl) hg) (cv_get (hA526.get rfl) hg)) fun a527 hA527 _ => ?_)
              refine sq (opk_gval hA527 rfl rfl (g := true) (e := (Op.bytesLess x_407_Name x_413_Name)) rfl (fun hg => r_pick_and (g := ((true && ((Op.bytesLess x_407_Name x_413_Name) == false)) && ((decide (x_407_Name = x_413_Name)) == true))) (cv_get (hA527.get rfl) hg) (hA527.get rfl) (fun he => g_mkt hg he)) fun a528 hA528 _ => ?_)
              refine sq (opk_val hA528 rfl (r_pick_or (g := (true && ((Op.bytesLess x_407_Name x_413_Name) == false))) (hA528.get rfl) (hA528.get rfl) (fun he => g_mkf rfl he)) fun a529 hA529 _ => ?_)
              refine sq (opk_val hA529 rfl (r_fieldAddr (hA529.get rfl) Tryz.underlying91 rfl ti_9 (by decide)) fun a530 hA530 _ => ?_)
              refine sq (opk_val hA530 rfl (r_load1 Tryz.underlying9 rfl (hA530.get rfl) (hB508.cell 0 _ rfl)) fun a531 hA531 _ => ?_)
              refine sq (opk_val hA531 rfl (r_fieldAddr (hA531.get rfl) Tryz.underlying91 rfl ti_9 (by decide)) fun a532 hA532 _ => ?_)
              refine sq (opk_val hA532 rfl (r_load1 Tryz.underlying9 rfl (hA532.get rfl) (hB505.cell 0 _ rfl)) fun a533 hA533 _ => ?_)
              refine sq (opk_val hA533 rfl (r_sgtr (hA533.get rfl) (hA533.get rfl)) fun a534 hA534 _ => ?_)
              refine sq (opk_val hA534 rfl (r_move (hA534.get rfl)) fun a535 hA535 _ => ?_)
              refine sq (opk_gval hA535 rfl rfl (g := true) (e := (!((Op.bytesLess x_407_Name x_413_Name) || (decide (x_407_Name = x_413_Name))))) rfl (fun hg => r_fieldAddr (hA535.get rfl) Tryz.underlying91 rfl ti_9 (by decide)) fun a536 hA536 _ => ?_)
              refine sq (opk_gval hA536 rfl rfl (g := true) (e := (!((Op.bytesLess x_407_Name x_413_Name) || (decide (x_407_Name = x_413_Name))))) rfl (fun hg => r_load1 Tryz.underlying9 rfl (cv_get (hA536.get rfl) hg) (hB508.cell 0 _ rfl)) fun a537 hA537 _ => ?_)
              refine sq (opk_gval hA537 rfl rfl (g := true) (e := (!((Op.bytesLess x_407_Name x_413_Name) || (decide (x_407_Name = x_413_Name))))) rfl (fun hg => r_fieldAddr (hA537.get rfl) Tryz.underlying91 rfl ti_9 (by decide)) fun a538 hA538 _ => ?_)
              refine sq (opk_gval hA538 rfl rfl (g := true) (e := (!((Op.bytesLess x_407_Name x_413_Name) || (decide (x_407_Name = x_413_Name))))) rfl (fun hg => r_load1 Tryz.underlying9 rfl (cv_get (hA538.get rfl) hg) (hB505.cell 0 _ rfl)) fun a539 hA539 _ => ?_)
              refine sq (opk_gval hA539 rfl rfl (g := true) (e := (!((Op.bytesLess x_407_Name x_413_Name) || (decide (x_407_Name = x_413_Name))))) rfl (fun hg => r_seql (cv_get (hA539.get rfl) hg) (cv_get (hA539.get rfl) hg)) fun a540 hA540 _ => ?_)
              refine sq (opk_gval hA540 rfl rfl (g := true) (e := (!((Op.bytesLess x_407_Name x_413_Name) || (decide (x_407_Name = x_413_Name))))) rfl (fun hg => r_move (cv_get (hA540.get rfl) hg)) fun a541 hA541 _ => ?_)
              refine sq (opk_gval hA541 rfl rfl (g := (true && ((!((Op.bytesLess x_407_Name x_413_Name) || (decide (x_407_Name = x_413_Name)))) == false))) (e := (decide (x_407_Name = x_413_Name))) rfl (fun hg => r_fieldAddr (hA541.get rfl) Tryz.underlying91 rfl ti_9 (by decide)) fun a542 hA542 _ => ?_)
              refine sq (opk_gval hA542 rfl rfl (g := (true && ((!((Op.bytesLess x_407_Name x_413_Name) || (decide (x_407_Name = x_413_Name)))) == false))) (e := (decide (x_407_Name = x_413_Name))) rfl (fun hg => r_load1 Tryz.underlying9 rfl (cv_get (hA542.get rfl) hg) (hB508.cell 1 _ rfl)) fun a543 hA543 _ => ?_)
              refine sq (opk_gval hA543 rfl rfl (g := (true && ((!((Op.bytesLess x_407_Name x_413_Name) || (decide (x_407_Name = x_413_Name)))) == false))) (e := (decide (x_407_Name = x_413_Name))) rfl (fun hg => r_fieldAddr (hA543.get rfl) Tryz.underlying91 rfl ti_9 (by decide)) fun a544 hA544 _ => ?_)
              refine sq (opk_gval hA544 rfl rfl (g := (true && ((!((Op.bytesLess x_407_Name x_413_Name) || (decide (x_407_Name = x_413_Name)))) == false))) (e := (decide (x_407_Name = x_413_Name))) rfl (fun hg => r_load1 Tryz.underlying9 rfl (cv_get (hA544.get rfl) hg) (hB505.cell 1 _ rfl)) fun a545 hA545 _ => ?_)
              refine sq (opk_gval hA545 rfl rfl (g := (true && ((!((Op.bytesLess x_407_Name x_413_Name) || (decide (x_407_Name = x_413_Name)))) == false))) (e := (decide (x_407_Name = x_413_Name))) rfl (fun hg => r_sgtr (cv_get (hA545.get rfl) hg) (cv_get (hA545.get rfl) hg)) fun a546 hA546 _ => ?_)
              refine sq (opk_gval hA546 rfl rfl (g := true) (e := (!((Op.bytesLess x_407_Name x_413_Name) || (decide (x_407_Name = x_413_Name))))) rfl (fun hg => r_pick_and (g := ((true && ((!((Op.bytesLess x_407_Name x_413_Name) || (decide (x_407_Name = x_413_Name)))) == false)) && ((decide (x_407_Name = x_413_Name)) == true))) (cv_get (hA546.get rfl) hg) (hA546.get rfl) (fun he => g_mkt hg he)) fun a547 hA547 _ => ?_)
              refine sq (opk_val hA547 rfl (r_pick_or (g := (true && ((!((Op.bytesLess x_407_Name x_413_Name) || (decide (x_407_Name = x_413_Name)))) == false))) (hA547.get rfl) (hA547.get rfl) (fun he => g_mkf rfl he)) fun a548 hA548 _ => ?_)
              have ht549 := ht454 w501    hC509
              refine sq (opk_call hA548 rfl (r_call (args := #[.bool ((Op.bytesLess x_407_Name x_413_Name) || ((decide (x_407_Name = x_413_Name)) && (Op.bytesLess x_407_Value x_413_Value))), .bool ((!((Op.bytesLess x_407_Name x_413_Name) || (decide (x_407_Name = x_413_Name)))) || ((decide (x_407_Name = x_413_Name)) && (!((Op.bytesLess x_407_Value x_413_Value) || (decide (x_407_Value = x_413_Value))))))]) Tryz.func68 (by decide) rfl (map_arr (ml_cons (hA548.get rfl) (ml_cons (hA548.get rfl) ml_nil))) rfl) ht549 fun a551 v557 w552 hA551 _ hn554 hz555 hK556 => ?_)
              obtain ⟨r_550, rfl, ht553⟩ := hK556
              have hB558 := hB506.kept hn554 (.head _)
              have hB559 := hB507.kept hn554 (.tail _ (.head _))
              have hB560 := hB508.kept hn554 (.tail _ (.tail _ (.head _)))
              have hB561 := hB505.kept hn554 (.tail _ (.tail _ (.tail _ (.head _))))
              refine sq (opk_val hA551 rfl (r_assign (hA551.get rfl)) fun a562 hA562 _ => ?_)
              refine sq_end ?_
              have hA563 := hA562.keep [(2, .pointer (some (⟨B_3, 0, none⟩ : Addr))), (3, .pointer (some (⟨B_11, 0, none⟩ : Addr))), (5, .int .i64 r_550), (6, .int .i64 i_174)] ⟨rfl, rfl, rfl, rfl, trivial⟩
              refine block_normal ?_
              refine then_normal ?_
              refine wp_region_lit ?_
              refine sq (opk_val hA563 rfl (r_move (hA563.get rfl)) fun a564 hA564 _ => ?_)
              obtain ⟨hS566, ht567⟩ := ht553
              refine sq (opk_val hA564 rfl (r_addI (hA564.get rfl) rfl hS566) fun a565 hA565 _ => ?_)
              refine sq (opk_val hA565 rfl (r_assign (hA565.get rfl)) fun a568 hA568 _ => ?_)
              refine sq_end ?_
              have hA569 := hA568.keep [(2, .pointer (some (⟨B_3, 0, none⟩ : Addr))), (3, .pointer (some (⟨B_11, 0, none⟩ : Addr))), (5, .int .i64 r_550), (6, .int .i64 (i_174 + 1))] ⟨rfl, rfl, rfl, rfl, trivial⟩
              have hA570 := hA569.keep [(2, .pointer (some (⟨B_3, 0, none⟩ : Addr))), (3, .pointer (some (⟨B_11, 0, none⟩ : Addr))), (5, .int .i64 r_550), (6, .int .i64 (i_174 + 1))] ⟨rfl, rfl, rfl, rfl, trivial⟩
              exact then_normal ⟨(r_550, i_174 + 1, w552), ⟨hA570, hB558, hB559, rfl, ht567.1⟩, ht567.2⟩
      · have ht397 := ht377.2 ((b_and_f hc).imp (fun h => ((b_and_f h).imp (fun h => (of_decide_eq_false h)) (fun h => (of_decide_eq_false h)))) (fun h => (of_decide_eq_false h)))
        clear hc
        refine wp_exit ?_
        refine then_exit ?_
        refine then_exit ?_
        refine block_hit ?_
        have hA571 := hA395.keep [(2, .pointer (some (⟨B_3, 0, none⟩ : Addr))), (3, .pointer (some (⟨B_11, 0, none⟩ : Addr))), (5, .int .i64 c_173)] ⟨rfl, rfl, rfl, trivial⟩
        refine then_normal ?_
        refine wp_seq ?_
        refine wp_seq ?_
        refine wp_region_lit ?_
        refine sq (opk_val hA571 rfl (r_move (hA571.get rfl)) fun a572 hA572 _ => ?_)
        refine sq (opk_val hA572 rfl (r_eql (hA572.get rfl) rfl) fun a573 hA573 _ => ?_)
        refine sq_end ?_
        have hA574 := hA573.keep [(2, .pointer (some (⟨B_3, 0, none⟩ : Addr))), (3, .pointer (some (⟨B_11, 0, none⟩ : Addr))), (5, .int .i64 c_173), (114, .bool (decide (c_173 = 0)))] ⟨rfl, rfl, rfl, rfl, trivial⟩
        refine then_normal ?_
        refine wp_cond_split (hA574.get rfl) (fun hc => ?_) (fun hc => ?_)
        · have ht575 := ht397.1 (of_decide_eq_true hc)
          clear hc
          refine wp_region_lit ?_
          refine sq (opk_val hA574 rfl (r_fieldAddr (hA574.get rfl) Tryz.underlying39 rfl ti_36 (by decide)) fun a577 hA577 _ => ?_)
          refine sq (opk_val hA577 rfl (r_load1 Tryz.underlying36 rfl (hA577.get rfl) (hB373.cell 3 _ rfl)) fun a578 hA578 _ => ?_)
          refine sq (opk_val hA578 rfl (r_len (hA578.get rfl) Tryz.underlying36) fun a579 hA579 _ => ?_)
          refine sq (opk_val hA579 rfl (r_fieldAddr (hA579.get rfl) Tryz.underlying39 rfl ti_36 (by decide)) fun a580 hA580 _ => ?_)
          refine sq (opk_val hA580 rfl (r_load1 Tryz.underlying36 rfl (hA580.get rfl) (hB374.cell 3 _ rfl)) fun a581 hA581 _ => ?_)
          refine sq (opk_val hA581 rfl (r_len (hA581.get rfl) Tryz.underlying36) fun a582 hA582 _ => ?_)
          refine sq (opk_val hA582 rfl (r_lss (hA582.get rfl) (hA582.get rfl)) fun a583 hA583 _ => ?_)
          refine sq (opk_val hA583 rfl (r_fieldAddr (hA583.get rfl) Tryz.underlying39 rfl ti_36 (by decide)) fun a584 hA584 _ => ?_)
          refine sq (opk_val hA584 rfl (r_load1 Tryz.underlying36 rfl (hA584.get rfl) (hB373.cell 3 _ rfl)) fun a585 hA585 _ => ?_)
          refine sq (opk_val hA585 rfl (r_len (hA585.get rfl) Tryz.underlying36) fun a586 hA586 _ => ?_)
          refine sq (opk_val hA586 rfl (r_fieldAddr (hA586.get rfl) Tryz.underlying39 rfl ti_36 (by decide)) fun a587 hA587 _ => ?_)
          refine sq (opk_val hA587 rfl (r_load1 Tryz.underlying36 rfl (hA587.get rfl) (hB374.cell 3 _ rfl)) fun a588 hA588 _ => ?_)
          refine sq (opk_val hA588 rfl (r_len (hA588.get rfl) Tryz.underlying36) fun a589 hA589 _ => ?_)
          refine sq (opk_val hA589 rfl (r_gtr (hA589.get rfl) (hA589.get rfl)) fun a590 hA590 _ => ?_)
          refine sq (opk_call hA590 rfl (r_call (args := #[.bool (decide ((a_1_Attrs.n : Int) < (b_2_Attrs.n : Int))), .bool (decide ((b_2_Attrs.n : Int) < (a_1_Attrs.n : Int)))]) Tryz.func68 (by decide) rfl (map_arr (ml_cons (hA590.get rfl) (ml_cons (hA590.get rfl) ml_nil))) rfl) ht575 fun a592 v598 w593 hA592 _ hn595 hz596 hK597 => ?_)
          obtain ⟨r_591, rfl, ht594⟩ := hK597
          have hB599 := hB373.kept hn595 (.head _)
          have hB600 := hB374.kept hn595 (.tail _ (.head _))
          refine sq (opk_val hA592 rfl (r_assign (hA592.get rfl)) fun a601 hA601 _ => ?_)
          refine sq_end ?_
          have hA602 := hA601.keep [(5, .int .i64 r_591)] ⟨rfl, trivial⟩
          refine then_normal ?_
          refine wp_seq ?_
          refine wp_region_lit ?_
          refine sq (opk_val hA602 rfl (r_move (hA602.get rfl)) fun a603 hA603 _ => ?_)
          refine sq (opk_val hA603 rfl (r_assign (hA603.get rfl)) fun a604 hA604 _ => ?_)
          refine sq_end ?_
          have hA605 := hA604.keep [(4, .int .i64 r_591)] ⟨rfl, trivial⟩
          refine then_normal ?_
          refine wp_ret ?_
          exact res_all (vs := [.int .i64 r_591]) rfl hA605 ⟨res_of_tmp hA605 rfl, trivial⟩ ht594
        · have ht576 := ht397.2 (of_decide_eq_false hc)
          clear hc
          refine wp_skip ?_
          refine then_normal ?_
          refine wp_seq ?_
          refine wp_region_lit ?_
          refine sq (opk_val hA574 rfl (r_move (hA574.get rfl)) fun a606 hA606 _ => ?_)
          refine sq (opk_val hA606 rfl (r_assign (hA606.get rfl)) fun a607 hA607 _ => ?_)
          refine sq_end ?_
          have hA608 := hA607.keep [(4, .int .i64 c_173)] ⟨rfl, trivial⟩
          refine then_normal ?_
          refine wp_ret ?_
          exact res_all (vs := [.int .i64 c_173]) rfl hA608 ⟨res_of_tmp hA608 rfl, trivial⟩ ht576

/-- The condition of topiary/topiaryref05.sign. -/
def ref05_sign.vc (less_1 : Bool) (more_2 : Bool) (R : Value → World → Prop) (w : World) : Prop :=
((less_1 = true) →
R (.int .i64 (-1)) w) ∧
((less_1 = false) →
((more_2 = true) →
R (.int .i64 1) w) ∧
((more_2 = false) →
R (.int .i64 0) w))
set_option maxHeartbeats 1000000 in
set_option maxRecDepth 10000 in
theorem ref05_sign.ok (less_1 : Bool) (more_2 : Bool) {R : Value → World → Prop} {w : World} (ht0 : ref05_sign.vc less_1 more_2 R w) : Calls Tryz.prog 68 #[.bool less_1, .bool more_2] w (Ret R) := by
  refine enter [.bool less_1, .bool more_2] Tryz.func68 rfl Tryz.ntmps68 rfl ?_
  intro a0 hA0
  unfold ref05_sign.vc at ht0
  refine wp_seq ?_
  refine wp_region_lit ?_
  refine sq (opk_val hA0 rfl (r_assign rfl) fun a3 hA3 _ => ?_)
  refine sq_end ?_
  have hA4 := hA3.keep [(0, .bool less_1), (1, .bool more_2)] ⟨rfl, rfl, trivial⟩
  refine then_normal ?_
  refine wp_seq ?_
  refine wp_block ?_
  refine wp_seq ?_
  refine wp_region_lit ?_
  refine sq (opk_val hA4 rfl (r_move (hA4.get rfl)) fun a5 hA5 _ => ?_)
  refine sq (opk_val hA5 rfl (r_assign (hA5.get rfl)) fun a6 hA6 _ => ?_)
  refine sq_end ?_
  have hA7 := hA6.keep [(1, .bool more_2), (5, .bool less_1)] ⟨rfl, rfl, trivial⟩
  refine then_normal ?_
  refine wp_cond_split (hA7.get rfl) (fun hc => ?_) (fun hc => ?_)
  · have ht8 := ht0.1 hc
    clear hc
    refine wp_seq ?_
    refine wp_region_lit ?_
    refine sq (opk_val hA7 rfl (r_assign rfl) fun a10 hA10 _ => ?_)
    refine sq_end ?_
    have hA11 := hA10.keep [(4, .int .i64 (-1))] ⟨rfl, trivial⟩
    refine then_normal ?_
    refine wp_ret ?_
    refine block_ret ?_
    refine then_ret ?_
    exact res_all (vs := [.int .i64 (-1)]) rfl hA11 ⟨res_of_tmp hA11 rfl, trivial⟩ ht8
  · have ht9 := ht0.2 hc
    clear hc
    refine wp_seq ?_
    refine wp_region_lit ?_
    refine sq (opk_val hA7 rfl (r_move (hA7.get rfl)) fun a12 hA12 _ => ?_)
    refine sq (opk_val hA12 rfl (r_assign (hA12.get rfl)) fun a13 hA13 _ => ?_)
    refine sq_end ?_
    have hA14 := hA13.keep [(7, .bool more_2)] ⟨rfl, trivial⟩
    refine then_normal ?_
    refine wp_cond_split (hA14.get rfl) (fun hc => ?_) (fun hc => ?_)
    · have ht15 := ht9.1 hc
      clear hc
      refine wp_seq ?_
      refine wp_region_lit ?_
      refine sq (opk_val hA14 rfl (r_assign rfl) fun a17 hA17 _ => ?_)
      refine sq_end ?_
      have hA18 := hA17.keep [(4, .int .i64 1)] ⟨rfl, trivial⟩
      refine then_normal ?_
      refine wp_ret ?_
      refine block_ret ?_
      refine then_ret ?_
      exact res_all (vs := [.int .i64 1]) rfl hA18 ⟨res_of_tmp hA18 rfl, trivial⟩ ht15
    · have ht16 := ht9.2 hc
      clear hc
      refine wp_skip ?_
      refine block_normal ?_
      refine then_normal ?_
      refine wp_seq ?_
      refine wp_region_lit ?_
      refine sq (opk_val hA14 rfl (r_assign rfl) fun a19 hA19 _ => ?_)
      refine sq_end ?_
      have hA20 := hA19.keep [(4, .int .i64 0)] ⟨rfl, trivial⟩
      refine then_normal ?_
      refine wp_ret ?_
      exact res_all (vs := [.int .i64 0]) rfl hA20 ⟨res_of_tmp hA20 rfl, trivial⟩ ht16

end Go.Proofs.YteacalmdpoblpaaGreat
