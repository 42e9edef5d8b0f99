/-
  PRINTED BY PROGRAM: for each function its condition (vc), and that this suffices (ok).
-/
import Derived.Test.YtpacegmmbabhjaaGT
namespace Go.Proofs.Ytpacegmmbabhjaa
open Go.RowKit
set_option linter.unusedVariables false

/-- The condition of topiary/topiarylaw05.TreeAll. -/
def law05_TreeAll.vc (a_1_Kind : Int) (a_1_Name : Str) (a_1_Text : Str) (a_1_Attrs : Sl) (a_1_Kids : Sl) (b_2_Kind : Int) (b_2_Name : Str) (b_2_Text : Str) (b_2_Attrs : Sl) (b_2_Kids : Sl) (name_3 : Str) (R : Value → World → Prop) (w : World) : Prop :=
∀ (w13 : World) (B_4 : Nat) (B_12 : Nat), New w B_4 w13 → New w B_12 w13 → B_4 ≠ B_12 → Chg [] w w13 →
CallK Try.prog 20 #[.agg #[.int .i64 a_1_Kind, .string (Bs a_1_Name), .string (Bs a_1_Text), Sl.v a_1_Attrs, Sl.v a_1_Kids]] w13 [B_4, B_12] (fun v w29 => ∃ (r_27 : Bool), v = .bool r_27 ∧
∃ (r_40 : Bool), (((r_27 = true)) → Calls Try.prog 20 #[.agg #[.int .i64 b_2_Kind, .string (Bs b_2_Name), .string (Bs b_2_Text), Sl.v b_2_Attrs, Sl.v b_2_Kids]] w29 (Ret fun v w' => Ext w29 w' ∧ v = .bool r_40)) ∧
(∀ w42 : World, Ext w29 w42 →
((((r_27 = false) ∨ (r_40 = false)) ∨ (200 < (name_3.length : Int))) →
CallK Try.prog 15 #[] w42 [B_4, B_12] (fun v w62 => ∃ (r_60 : Bool), v = .bool r_60 ∧
R (.bool r_60) w62)) ∧
((((r_27 = true) ∧ (r_40 = true)) ∧ (¬ (200 < (name_3.length : Int)))) →
∀ (w72 : World), Chg [] w42 w72 →
∃ V_80 : Int → Str → Str → Sl → Sl → World → Prop, (∀ r_79_Kind : Int, ∀ r_79_Name : Str, ∀ r_79_Text : Str, ∀ r_79_Attrs : Sl, ∀ r_79_Kids : Sl, ∀ w' w'' : World, Ext w' w'' → V_80 r_79_Kind r_79_Name r_79_Text r_79_Attrs r_79_Kids w' → V_80 r_79_Kind r_79_Name r_79_Text r_79_Attrs r_79_Kids w'') ∧
(∀ w' : World, Ext w72 w' → Calls Try.prog 13 #[.agg #[.int .i64 a_1_Kind, .string (Bs a_1_Name), .string (Bs a_1_Text), Sl.v a_1_Attrs, Sl.v a_1_Kids]] w' (Ret fun v w'' => Ext w' w'' ∧ ∃ r_79_Kind : Int, ∃ r_79_Name : Str, ∃ r_79_Text : Str, ∃ r_79_Attrs : Sl, ∃ r_79_Kids : Sl, v = .agg #[.int .i64 r_79_Kind, .string (Bs r_79_Name), .string (Bs r_79_Text), Sl.v r_79_Attrs, Sl.v r_79_Kids] ∧ V_80 r_79_Kind r_79_Name r_79_Text r_79_Attrs r_79_Kids w'')) ∧
∃ V_86 : Int → Str → Str → Sl → Sl → World → Prop, (∀ r_85_Kind : Int, ∀ r_85_Name : Str, ∀ r_85_Text : Str, ∀ r_85_Attrs : Sl, ∀ r_85_Kids : Sl, ∀ w' w'' : World, Ext w' w'' → V_86 r_85_Kind r_85_Name r_85_Text r_85_Attrs r_85_Kids w' → V_86 r_85_Kind r_85_Name r_85_Text r_85_Attrs r_85_Kids w'') ∧
(∀ w' : World, Ext w72 w' → Calls Try.prog 13 #[.agg #[.int .i64 b_2_Kind, .string (Bs b_2_Name), .string (Bs b_2_Text), Sl.v b_2_Attrs, Sl.v b_2_Kids]] w' (Ret fun v w'' => Ext w' w'' ∧ ∃ r_85_Kind : Int, ∃ r_85_Name : Str, ∃ r_85_Text : Str, ∃ r_85_Attrs : Sl, ∃ r_85_Kids : Sl, v = .agg #[.int .i64 r_85_Kind, .string (Bs r_85_Name), .string (Bs r_85_Text), Sl.v r_85_Attrs, Sl.v r_85_Kids] ∧ V_86 r_85_Kind r_85_Name r_85_Text r_85_Attrs r_85_Kids w'')) ∧
∀ (w101 : World) (r_79_Kind : Int) (r_79_Name : Str) (r_79_Text : Str) (r_79_Attrs : Sl) (r_79_Kids : Sl) (r_85_Kind : Int) (r_85_Name : Str) (r_85_Text : Str) (r_85_Attrs : Sl) (r_85_Kids : Sl) (B_90 : Nat) (B_95 : Nat), Ext w72 w101 → V_80 r_79_Kind r_79_Name r_79_Text r_79_Attrs r_79_Kids w101 → V_86 r_85_Kind r_85_Name r_85_Text r_85_Attrs r_85_Kids w101 → w72.heap.size ≤ B_90 → Box w101 B_90 26 [.int .i64 0, .string (Bs ([] : Str)), .string (Bs ([] : Str)), Sl.v Sl.nil, Sl.v Sl.nil] → w72.heap.size ≤ B_95 → Box w101 B_95 26 [.int .i64 0, .string (Bs ([] : Str)), .string (Bs ([] : Str)), Sl.v Sl.nil, Sl.v Sl.nil] → 
∀ (w138 : World), Chg [B_95, B_90] w101 w138 →
CallK Try.prog 23 #[.agg #[.int .i64 r_79_Kind, .string (Bs r_79_Name), .string (Bs r_79_Text), Sl.v r_79_Attrs, Sl.v r_79_Kids], .string (Bs name_3)] w138 [B_4, B_12, B_90, B_95] (fun v w154 => ∃ (r_0_151 : Str) (r_1_152 : Bool), v = .tuple #[.string (Bs r_0_151), .bool r_1_152] ∧
CallK Try.prog 26 #[Sl.v a_1_Attrs, .string (Bs name_3)] w154 [B_4, B_12, B_90, B_95] (fun v w176 => ∃ (r_0_173 : Str) (r_1_174 : Bool), v = .tuple #[.string (Bs r_0_173), .bool r_1_174] ∧
∀ (w192 : World), Chg [] w176 w192 →
∃ (r_201 : Bool), (∀ w' : World, Ext w192 w' → Calls Try.prog 12 #[.agg #[.int .i64 r_79_Kind, .string (Bs r_79_Name), .string (Bs r_79_Text), Sl.v r_79_Attrs, Sl.v r_79_Kids]] w' (Ret fun v w'' => Ext w' w'' ∧ v = .bool r_201)) ∧
∃ (r_205 : Bool), (∀ w' : World, Ext w192 w' → Calls Try.prog 27 #[.agg #[.int .i64 a_1_Kind, .string (Bs a_1_Name), .string (Bs a_1_Text), Sl.v a_1_Attrs, Sl.v a_1_Kids]] w' (Ret fun v w'' => Ext w' w'' ∧ v = .bool r_205)) ∧
∃ (r_214 : Bool), ((((r_201 == r_205) = true)) → ∀ w' : World, Ext w192 w' → Calls Try.prog 19 #[.string (Bs name_3)] w' (Ret fun v w'' => Ext w' w'' ∧ v = .bool r_214)) ∧
∃ (r_220 : Bool), ((((r_201 == r_205) = true)) → ∀ w' : World, Ext w192 w' → Calls Try.prog 28 #[.string (Bs name_3)] w' (Ret fun v w'' => Ext w' w'' ∧ v = .bool r_220)) ∧
∃ (r_232 : Int), (((((r_201 == r_205) = true) ∧ ((r_214 == r_220) = true))) → ∀ w' : World, Ext w192 w' → Calls Try.prog 21 #[.agg #[.int .i64 r_79_Kind, .string (Bs r_79_Name), .string (Bs r_79_Text), Sl.v r_79_Attrs, Sl.v r_79_Kids]] w' (Ret fun v w'' => Ext w' w'' ∧ v = .int .i64 r_232)) ∧
∃ (r_238 : Int), (((((r_201 == r_205) = true) ∧ ((r_214 == r_220) = true))) → ∀ w' : World, Ext w192 w' → Calls Try.prog 29 #[.agg #[.int .i64 a_1_Kind, .string (Bs a_1_Name), .string (Bs a_1_Text), Sl.v a_1_Attrs, Sl.v a_1_Kids]] w' (Ret fun v w'' => Ext w' w'' ∧ v = .int .i64 r_238)) ∧
∃ (r_250 : Int), ((((((r_201 == r_205) = true) ∧ ((r_214 == r_220) = true)) ∧ (r_232 = r_238))) → ∀ w' : World, Ext w192 w' → Calls Try.prog 18 #[.agg #[.int .i64 r_79_Kind, .string (Bs r_79_Name), .string (Bs r_79_Text), Sl.v r_79_Attrs, Sl.v r_79_Kids]] w' (Ret fun v w'' => Ext w' w'' ∧ v = .int .i64 r_250)) ∧
∃ (r_256 : Int), ((((((r_201 == r_205) = true) ∧ ((r_214 == r_220) = true)) ∧ (r_232 = r_238))) → ∀ w' : World, Ext w192 w' → Calls Try.prog 30 #[.agg #[.int .i64 a_1_Kind, .string (Bs a_1_Name), .string (Bs a_1_Text), Sl.v a_1_Attrs, Sl.v a_1_Kids]] w' (Ret fun v w'' => Ext w' w'' ∧ v = .int .i64 r_256)) ∧
∃ (r_268 : Int), (((((((r_201 == r_205) = true) ∧ ((r_214 == r_220) = true)) ∧ (r_232 = r_238)) ∧ (r_250 = r_256))) → ∀ w' : World, Ext w192 w' → Calls Try.prog 22 #[.agg #[.int .i64 r_79_Kind, .string (Bs r_79_Name), .string (Bs r_79_Text), Sl.v r_79_Attrs, Sl.v r_79_Kids]] w' (Ret fun v w'' => Ext w' w'' ∧ v = .int .i64 r_268)) ∧
∃ (r_274 : Int), (((((((r_201 == r_205) = true) ∧ ((r_214 == r_220) = true)) ∧ (r_232 = r_238)) ∧ (r_250 = r_256))) → ∀ w' : World, Ext w192 w' → Calls Try.prog 31 #[.agg #[.int .i64 a_1_Kind, .string (Bs a_1_Name), .string (Bs a_1_Text), Sl.v a_1_Attrs, Sl.v a_1_Kids]] w' (Ret fun v w'' => Ext w' w'' ∧ v = .int .i64 r_274)) ∧
∃ (r_288 : Bool), ((((((((r_201 == r_205) = true) ∧ ((r_214 == r_220) = true)) ∧ (r_232 = r_238)) ∧ (r_250 = r_256)) ∧ (r_268 = r_274))) → ∀ w' : World, Ext w192 w' → Calls Try.prog 25 #[.agg #[.int .i64 r_79_Kind, .string (Bs r_79_Name), .string (Bs r_79_Text), Sl.v r_79_Attrs, Sl.v r_79_Kids], .agg #[.int .i64 r_85_Kind, .string (Bs r_85_Name), .string (Bs r_85_Text), Sl.v r_85_Attrs, Sl.v r_85_Kids]] w' (Ret fun v w'' => Ext w' w'' ∧ v = .bool r_288)) ∧
∃ (r_296 : Bool), ((((((((r_201 == r_205) = true) ∧ ((r_214 == r_220) = true)) ∧ (r_232 = r_238)) ∧ (r_250 = r_256)) ∧ (r_268 = r_274))) → ∀ w' : World, Ext w192 w' → Calls Try.prog 32 #[.agg #[.int .i64 a_1_Kind, .string (Bs a_1_Name), .string (Bs a_1_Text), Sl.v a_1_Attrs, Sl.v a_1_Kids], .agg #[.int .i64 b_2_Kind, .string (Bs b_2_Name), .string (Bs b_2_Text), Sl.v b_2_Attrs, Sl.v b_2_Kids]] w' (Ret fun v w'' => Ext w' w'' ∧ v = .bool r_296)) ∧
∃ (r_310 : Int), (((((((((r_201 == r_205) = true) ∧ ((r_214 == r_220) = true)) ∧ (r_232 = r_238)) ∧ (r_250 = r_256)) ∧ (r_268 = r_274)) ∧ ((r_288 == r_296) = true))) → ∀ w' : World, Ext w192 w' → Calls Try.prog 24 #[.agg #[.int .i64 r_79_Kind, .string (Bs r_79_Name), .string (Bs r_79_Text), Sl.v r_79_Attrs, Sl.v r_79_Kids], .agg #[.int .i64 r_85_Kind, .string (Bs r_85_Name), .string (Bs r_85_Text), Sl.v r_85_Attrs, Sl.v r_85_Kids]] w' (Ret fun v w'' => Ext w' w'' ∧ v = .int .i64 r_310)) ∧
∃ (r_318 : Int), (((((((((r_201 == r_205) = true) ∧ ((r_214 == r_220) = true)) ∧ (r_232 = r_238)) ∧ (r_250 = r_256)) ∧ (r_268 = r_274)) ∧ ((r_288 == r_296) = true))) → ∀ w' : World, Ext w192 w' → Calls Try.prog 33 #[.agg #[.int .i64 a_1_Kind, .string (Bs a_1_Name), .string (Bs a_1_Text), Sl.v a_1_Attrs, Sl.v a_1_Kids], .agg #[.int .i64 b_2_Kind, .string (Bs b_2_Name), .string (Bs b_2_Text), Sl.v b_2_Attrs, Sl.v b_2_Kids]] w' (Ret fun v w'' => Ext w' w'' ∧ v = .int .i64 r_318)) ∧
∃ (r_348 : Bool), ((((((((((((r_201 == r_205) = true) ∧ ((r_214 == r_220) = true)) ∧ (r_232 = r_238)) ∧ (r_250 = r_256)) ∧ (r_268 = r_274)) ∧ ((r_288 == r_296) = true)) ∧ (r_310 = r_318)) ∧ (r_0_151 = r_0_173)) ∧ ((r_1_152 == r_1_174) = true))) → ∀ w' : World, Ext w192 w' → Calls Try.prog 32 #[.agg #[.int .i64 r_79_Kind, .string (Bs r_79_Name), .string (Bs r_79_Text), Sl.v r_79_Attrs, Sl.v r_79_Kids], .agg #[.int .i64 a_1_Kind, .string (Bs a_1_Name), .string (Bs a_1_Text), Sl.v a_1_Attrs, Sl.v a_1_Kids]] w' (Ret fun v w'' => Ext w' w'' ∧ v = .bool r_348)) ∧
∃ (r_355 : Bool), (((((((((((((r_201 == r_205) = true) ∧ ((r_214 == r_220) = true)) ∧ (r_232 = r_238)) ∧ (r_250 = r_256)) ∧ (r_268 = r_274)) ∧ ((r_288 == r_296) = true)) ∧ (r_310 = r_318)) ∧ (r_0_151 = r_0_173)) ∧ ((r_1_152 == r_1_174) = true)) ∧ (r_348 = true))) → ∀ w' : World, Ext w192 w' → Calls Try.prog 15 #[] w' (Ret fun v w'' => Ext w' w'' ∧ v = .bool r_355)) ∧
∀ (w362 : World), Chg [] w192 w362 →
R (.bool (((((((((((r_201 == r_205) && (r_214 == r_220)) && (decide (r_232 = r_238))) && (decide (r_250 = r_256))) && (decide (r_268 = r_274))) && (r_288 == r_296)) && (decide (r_310 = r_318))) && (decide (r_0_151 = r_0_173))) && (r_1_152 == r_1_174)) && r_348) && r_355)) w362)))))
set_option maxHeartbeats 1000000 in
set_option maxRecDepth 10000 in
theorem law05_TreeAll.ok (a_1_Kind : Int) (a_1_Name : Str) (a_1_Text : Str) (a_1_Attrs : Sl) (a_1_Kids : Sl) (b_2_Kind : Int) (b_2_Name : Str) (b_2_Text : Str) (b_2_Attrs : Sl) (b_2_Kids : Sl) (name_3 : Str) {R : Value → World → Prop} {w : World} (ht0 : law05_TreeAll.vc a_1_Kind a_1_Name a_1_Text a_1_Attrs a_1_Kids b_2_Kind b_2_Name b_2_Text b_2_Attrs b_2_Kids name_3 R w) : Calls Try.prog 10 #[.agg #[.int .i64 a_1_Kind, .string (Bs a_1_Name), .string (Bs a_1_Text), Sl.v a_1_Attrs, Sl.v a_1_Kids], .agg #[.int .i64 b_2_Kind, .string (Bs b_2_Name), .string (Bs b_2_Text), Sl.v b_2_Attrs, Sl.v b_2_Kids], .string (Bs name_3)] w (Ret R) := by
  refine enter [.agg #[.int .i64 a_1_Kind, .string (Bs a_1_Name), .string (Bs a_1_Text), Sl.v a_1_Attrs, Sl.v a_1_Kids], .agg #[.int .i64 b_2_Kind, .string (Bs b_2_Name), .string (Bs b_2_Text), Sl.v b_2_Attrs, Sl.v b_2_Kids], .string (Bs name_3)] Try.func10 rfl Try.ntmps10 rfl ?_
  intro a0 hA0
  unfold law05_TreeAll.vc at ht0
  refine wp_seq ?_
  refine wp_region_lit ?_
  refine sq (opk_new (fun B => .pointer (some ⟨B, 0, none⟩)) hA0 rfl (r_box (cs := [.int .i64 a_1_Kind, .string (Bs a_1_Name), .string (Bs a_1_Text), Sl.v a_1_Attrs, Sl.v a_1_Kids]) (hA0.get rfl) rfl) fun a6 w5 B_4 hE7 hN8 hB9 hA6 _ => ?_)
  have hN10 : New w B_4 w5 := hN8
  have hC11 : Chg [] w w5 := hE7
  refine sq (opk_new (fun B => .pointer (some ⟨B, 0, none⟩)) hA6 rfl (r_box (cs := [.int .i64 b_2_Kind, .string (Bs b_2_Name), .string (Bs b_2_Text), Sl.v b_2_Attrs, Sl.v b_2_Kids]) (hA6.get rfl) rfl) fun a14 w13 B_12 hE15 hN16 hB17 hA14 _ => ?_)
  have hne18 : B_4 ≠ B_12 := Nat.ne_of_lt (Nat.lt_of_lt_of_le hB9.lt hN16.ge)
  have hN19 := New.of hC11 hN16
  have hB20 := hB9.ext hE15
  have hC21 := hC11.more hE15
  have hN22 := hN10.up hE15.size
  refine sq (opk_val hA14 rfl (r_assign rfl) fun a23 hA23 _ => ?_)
  refine sq_end ?_
  have hA24 := hA23.keep [(2, .string (Bs name_3)), (3, .pointer (some ⟨B_4, 0, none⟩)), (4, .pointer (some ⟨B_12, 0, none⟩))] ⟨rfl, rfl, rfl, trivial⟩
  refine then_normal ?_
  refine wp_seq ?_
  refine wp_seq ?_
  refine wp_region_lit ?_
  refine sq (opk_val hA24 rfl (r_loadN (cs := [.int .i64 a_1_Kind, .string (Bs a_1_Name), .string (Bs a_1_Text), Sl.v a_1_Attrs, Sl.v a_1_Kids]) Try.underlying26 rfl ti_26 (hA24.get rfl) (hB20.part 0 _ rfl)) fun a25 hA25 _ => ?_)
  have ht26 := ht0 w13 B_4 B_12 hN22 hN19 hne18 hC21
  refine sq (opk_call hA25 rfl (r_call (args := #[.agg #[.int .i64 a_1_Kind, .string (Bs a_1_Name), .string (Bs a_1_Text), Sl.v a_1_Attrs, Sl.v a_1_Kids]]) Try.func20 (by decide) rfl (map_arr (ml_cons (hA25.get rfl) ml_nil)) rfl) ht26 fun a28 v34 w29 hA28 _ hn31 hz32 hK33 => ?_)
  obtain ⟨r_27, rfl, ht30⟩ := hK33
  have hB35 := hB20.kept hn31 (.head _)
  have hB36 := hB17.kept hn31 (.tail _ (.head _))
  refine sq (opk_val hA28 rfl (r_not (hA28.get rfl)) fun a37 hA37 _ => ?_)
  refine sq (opk_val hA37 rfl (r_move (hA37.get rfl)) fun a38 hA38 _ => ?_)
  refine sq (opk_gval hA38 rfl rfl (g := true) (e := (!r_27)) rfl (fun hg => r_loadN (cs := [.int .i64 b_2_Kind, .string (Bs b_2_Name), .string (Bs b_2_Text), Sl.v b_2_Attrs, Sl.v b_2_Kids]) Try.underlying26 rfl ti_26 (hA38.get rfl) (hB36.part 0 _ rfl)) fun a39 hA39 _ => ?_)
  obtain ⟨r_40, hc44, ht43⟩ := ht30
  refine sq (opk_gcall hA39 rfl rfl (g := true) (e := (!r_27)) rfl (fun hg => r_call (args := #[.agg #[.int .i64 b_2_Kind, .string (Bs b_2_Name), .string (Bs b_2_Text), Sl.v b_2_Attrs, Sl.v b_2_Kids]]) Try.func20 (by decide) rfl (map_arr (ml_cons (cv_get (hA39.get rfl) hg) ml_nil)) rfl) (fun hg => hc44 (b_not_f (g_f hg))) fun a41 w42 hA41 _ hE45 => ?_)
  have hB46 := hB35.ext hE45
  have hB47 := hB36.ext hE45
  have hC48 : Chg [] w29 w42 := hE45
  have ht49 := ht43 w42 hE45
  refine sq (opk_gval hA41 rfl rfl (g := true) (e := (!r_27)) rfl (fun hg => r_not (cv_get (hA41.get rfl) hg)) fun a50 hA50 _ => ?_)
  refine sq (opk_val hA50 rfl (r_pick_or (g := (true && ((!r_27) == false))) (hA50.get rfl) (hA50.get rfl) (fun he => g_mkf rfl he)) fun a51 hA51 _ => ?_)
  refine sq (opk_val hA51 rfl (r_move (hA51.get rfl)) fun a52 hA52 _ => ?_)
  refine sq (opk_gval hA52 rfl rfl (g := true) (e := ((!r_27) || (!r_40))) rfl (fun hg => r_move (hA52.get rfl)) fun a53 hA53 _ => ?_)
  refine sq (opk_gval hA53 rfl rfl (g := true) (e := ((!r_27) || (!r_40))) rfl (fun hg => r_slen (cv_get (hA53.get rfl) hg) Try.underlying9) fun a54 hA54 _ => ?_)
  refine sq (opk_gval hA54 rfl rfl (g := true) (e := ((!r_27) || (!r_40))) rfl (fun hg => r_gtr (cv_get (hA54.get rfl) hg) rfl) fun a55 hA55 _ => ?_)
  refine sq (opk_val hA55 rfl (r_pick_or (g := (true && (((!r_27) || (!r_40)) == false))) (hA55.get rfl) (hA55.get rfl) (fun he => g_mkf rfl he)) fun a56 hA56 _ => ?_)
  refine sq_end ?_
  have hA57 := hA56.keep [(2, .string (Bs name_3)), (3, .pointer (some ⟨B_4, 0, none⟩)), (4, .pointer (some ⟨B_12, 0, none⟩)), (25, .bool (((!r_27) || (!r_40)) || (decide (200 < (name_3.length : Int)))))] ⟨rfl, rfl, rfl, rfl, trivial⟩
  refine then_normal ?_
  refine wp_cond_split (hA57.get rfl) (fun hc => ?_) (fun hc => ?_)
  · have ht58 := ht49.1 ((b_or_t hc).imp (fun h => ((b_or_t h).imp (fun h => (b_not_t h)) (fun h => (b_not_t h)))) (fun h => (of_decide_eq_true h)))
    clear hc
    refine wp_seq ?_
    refine wp_region_lit ?_
    refine sq (opk_call hA57 rfl (r_call (args := #[]) Try.func15 (by decide) rfl (map_arr ml_nil) rfl) ht58 fun a61 v67 w62 hA61 _ hn64 hz65 hK66 => ?_)
    obtain ⟨r_60, rfl, ht63⟩ := hK66
    have hB68 := hB46.kept hn64 (.head _)
    have hB69 := hB47.kept hn64 (.tail _ (.head _))
    refine sq (opk_val hA61 rfl (r_assign (hA61.get rfl)) fun a70 hA70 _ => ?_)
    refine sq_end ?_
    have hA71 := hA70.keep [(6, .bool r_60)] ⟨rfl, trivial⟩
    refine then_normal ?_
    refine wp_ret ?_
    refine then_ret ?_
    exact res_all (vs := [.bool r_60]) rfl hA71 ⟨res_of_tmp hA71 rfl, trivial⟩ ht63
  · have ht59 := ht49.2 ⟨⟨(b_not_f (b_or_f (b_or_f hc).1).1), (b_not_f (b_or_f (b_or_f hc).1).2)⟩, (of_decide_eq_false (b_or_f hc).2)⟩
    clear hc
    refine wp_skip ?_
    refine then_normal ?_
    refine wp_seq ?_
    refine draw' (by kernel_rfl) fun w72 hE73 => ?_
    have hB74 := hB46.ext hE73
    have hB75 := hB47.ext hE73
    have hC76 : Chg [] w42 w72 := hE73
    have ht77 := ht59 w72    hC76
    obtain ⟨V_80, hst81, hc82, ht83⟩ := ht77
    obtain ⟨V_86, hst87, hc88, ht89⟩ := ht83
    refine startF (D := [[], [0], [], [0, 1, 2], [], [], [0, 1, 2, 3, 4, 5], [0, 1, 2, 3, 4, 5, 6]]) (Fs := []) (Ef := []) (by kernel_rfl) ?_
    refine parFN (D := [[], [0], [], [0, 1, 2], [], [], [0, 1, 2, 3, 4, 5], [0, 1, 2, 3, 4, 5, 6]]) (S := [0, 1, 2, 3, 4, 5]) (F := []) (KE := [0, 1, 2, 3, 4, 5]) (N := [4, 5]) (E := [(0, fun v _ => v = .agg #[.int .i64 a_1_Kind, .string (Bs a_1_Name), .string (Bs a_1_Text), Sl.v a_1_Attrs, Sl.v a_1_Kids]), (1, fun v w' => ∃ r_79_Kind : Int, ∃ r_79_Name : Str, ∃ r_79_Text : Str, ∃ r_79_Attrs : Sl, ∃ r_79_Kids : Sl, V_80 r_79_Kind r_79_Name r_79_Text r_79_Attrs r_79_Kids w' ∧ v = .agg #[.int .i64 r_79_Kind, .string (Bs r_79_Name), .string (Bs r_79_Text), Sl.v r_79_Attrs, Sl.v r_79_Kids]), (2, fun v _ => v = .agg #[.int .i64 b_2_Kind, .string (Bs b_2_Name), .string (Bs b_2_Text), Sl.v b_2_Attrs, Sl.v b_2_Kids]), (3, fun v w' => ∃ r_85_Kind : Int, ∃ r_85_Name : Str, ∃ r_85_Text : Str, ∃ r_85_Attrs : Sl, ∃ r_85_Kids : Sl, V_86 r_85_Kind r_85_Name r_85_Text r_85_Attrs r_85_Kids w' ∧ v = .agg #[.int .i64 r_85_Kind, .string (Bs r_85_Name), .string (Bs r_85_Text), Sl.v r_85_Attrs, Sl.v r_85_Kids]), (4, fun v w' => ∃ B_90 : Nat, w72.heap.size ≤ B_90 ∧ Box w' B_90 26 [.int .i64 0, .string (Bs ([] : Str)), .string (Bs ([] : Str)), Sl.v Sl.nil, Sl.v Sl.nil] ∧ v = .pointer (some ⟨B_90, 0, none⟩)), (5, fun v w' => ∃ B_95 : Nat, w72.heap.size ≤ B_95 ∧ Box w' B_95 26 [.int .i64 0, .string (Bs ([] : Str)), .string (Bs ([] : Str)), Sl.v Sl.nil, Sl.v Sl.nil] ∧ v = .pointer (some ⟨B_95, 0, none⟩))]) hA57 rfl (by kernel_rfl) (blkF ⟨fun _ _ h => by obtain ⟨B_90, _, hB, rfl⟩ := h; exact hB.lt, fun _ _ h => by obtain ⟨B_95, _, hB, rfl⟩ := h; exact hB.lt, trivial⟩) ⟨fun _ _ _ _ h => by first | exact h | (change _ = _ at h; change _ = _; exact h), fun _ _ _ hE ⟨r_79_Kind, r_79_Name, r_79_Text, r_79_Attrs, r_79_Kids, h0_, e⟩ => ⟨r_79_Kind, r_79_Name, r_79_Text, r_79_Attrs, r_79_Kids, (hst81 r_79_Kind r_79_Name r_79_Text r_79_Attrs r_79_Kids _ _ hE h0_), e⟩, fun _ _ _ _ h => by first | exact h | (change _ = _ at h; change _ = _; exact h), fun _ _ _ hE ⟨r_85_Kind, r_85_Name, r_85_Text, r_85_Attrs, r_85_Kids, h0_, e⟩ => ⟨r_85_Kind, r_85_Name, r_85_Text, r_85_Attrs, r_85_Kids, (hst87 r_85_Kind r_85_Name r_85_Text r_85_Attrs r_85_Kids _ _ hE h0_), e⟩, fun _ _ _ hE ⟨B_90, h0_, h1_, e⟩ => ⟨B_90, h0_, (h1_.ext hE), e⟩, fun _ _ _ hE ⟨B_95, h0_, h1_, e⟩ => ⟨B_95, h0_, (h1_.ext hE), e⟩, trivial⟩ ⟨?_, ?_, ?_, ?_, ?_, ?_, trivial⟩ ?_
    · intro a w hT
      refine overN_of rfl ?_
      have hAp := hT.ag hA57 [(3, .pointer (some ⟨B_4, 0, none⟩))] ⟨rfl, trivial⟩ (by kernel_rfl)
      exact opk_val hAp rfl (r_loadN (cs := [.int .i64 a_1_Kind, .string (Bs a_1_Name), .string (Bs a_1_Text), Sl.v a_1_Attrs, Sl.v a_1_Kids]) Try.underlying26 rfl ti_26 (hAp.get rfl) ((hB74.ext hT.chg).part 0 _ rfl)) fun _ _ e => ⟨_, e, Chg.refl _ _, fun _ => Eq.refl _⟩
    · intro a w hT
      refine overN_of rfl ?_
      have hAp := hT.ag hA57 [] trivial (by kernel_rfl)
      have e78 : a.tmps.getD 27 undef = .agg #[.int .i64 a_1_Kind, .string (Bs a_1_Name), .string (Bs a_1_Text), Sl.v a_1_Attrs, Sl.v a_1_Kids] := hT.vals 0 rfl 27 rfl
      have hAp := hAp.add e78
      exact opk_callX hAp rfl (r_call (args := #[.agg #[.int .i64 a_1_Kind, .string (Bs a_1_Name), .string (Bs a_1_Text), Sl.v a_1_Attrs, Sl.v a_1_Kids]]) Try.func13 (by decide) rfl (map_arr (ml_cons (hAp.get rfl) ml_nil)) rfl) (hc82 w hT.chg) fun _ _ _ _ e ⟨hE, r_79_Kind, r_79_Name, r_79_Text, r_79_Attrs, r_79_Kids, he, hV⟩ => ⟨_, e, hE, fun _ => ⟨r_79_Kind, r_79_Name, r_79_Text, r_79_Attrs, r_79_Kids, hV, he⟩⟩
    · intro a w hT
      refine overN_of rfl ?_
      have hAp := hT.ag hA57 [(4, .pointer (some ⟨B_12, 0, none⟩))] ⟨rfl, trivial⟩ (by kernel_rfl)
      exact opk_val hAp rfl (r_loadN (cs := [.int .i64 b_2_Kind, .string (Bs b_2_Name), .string (Bs b_2_Text), Sl.v b_2_Attrs, Sl.v b_2_Kids]) Try.underlying26 rfl ti_26 (hAp.get rfl) ((hB75.ext hT.chg).part 0 _ rfl)) fun _ _ e => ⟨_, e, Chg.refl _ _, fun _ => Eq.refl _⟩
    · intro a w hT
      refine overN_of rfl ?_
      have hAp := hT.ag hA57 [] trivial (by kernel_rfl)
      have e84 : a.tmps.getD 29 undef = .agg #[.int .i64 b_2_Kind, .string (Bs b_2_Name), .string (Bs b_2_Text), Sl.v b_2_Attrs, Sl.v b_2_Kids] := hT.vals 2 rfl 29 rfl
      have hAp := hAp.add e84
      exact opk_callX hAp rfl (r_call (args := #[.agg #[.int .i64 b_2_Kind, .string (Bs b_2_Name), .string (Bs b_2_Text), Sl.v b_2_Attrs, Sl.v b_2_Kids]]) Try.func13 (by decide) rfl (map_arr (ml_cons (hAp.get rfl) ml_nil)) rfl) (hc88 w hT.chg) fun _ _ _ _ e ⟨hE, r_85_Kind, r_85_Name, r_85_Text, r_85_Attrs, r_85_Kids, he, hV⟩ => ⟨_, e, hE, fun _ => ⟨r_85_Kind, r_85_Name, r_85_Text, r_85_Attrs, r_85_Kids, hV, he⟩⟩
    · intro a w hT
      have hAp := hT.ag hA57 [] trivial (by kernel_rfl)
      exact opk_new (fun B => .pointer (some ⟨B, 0, none⟩)) hAp rfl (r_alloc (cs := [.int .i64 0, .string (Bs ([] : Str)), .string (Bs ([] : Str)), Sl.v Sl.nil, Sl.v Sl.nil]) ti_26 rfl) fun _ w91 B_90 hE92 hN93 hB94 _ e => ⟨_, e, hE92, fun _ => ⟨B_90, Nat.le_trans hT.chg.size hN93.ge, hB94, rfl⟩, fun _ => hN93.ge⟩
    · intro a w hT
      have hAp := hT.ag hA57 [] trivial (by kernel_rfl)
      exact opk_new (fun B => .pointer (some ⟨B, 0, none⟩)) hAp rfl (r_alloc (cs := [.int .i64 0, .string (Bs ([] : Str)), .string (Bs ([] : Str)), Sl.v Sl.nil, Sl.v Sl.nil]) ti_26 rfl) fun _ w96 B_95 hE97 hN98 hB99 _ e => ⟨_, e, hE97, fun _ => ⟨B_95, Nat.le_trans hT.chg.size hN98.ge, hB99, rfl⟩, fun _ => hN98.ge⟩
    · intro a100 w101 hE102 hag103 hv104 hap105
      refine PRF_nil ?_
      have hA100 := hag103 [(2, .string (Bs name_3)), (3, .pointer (some ⟨B_4, 0, none⟩)), (4, .pointer (some ⟨B_12, 0, none⟩))] ⟨rfl, rfl, rfl, trivial⟩ (by kernel_rfl)
      obtain ⟨r_79_Kind, r_79_Name, r_79_Text, r_79_Attrs, r_79_Kids, hf108, e106⟩ := hv104 1 rfl 28 rfl
      have hA107 := hA100.add e106
      obtain ⟨r_85_Kind, r_85_Name, r_85_Text, r_85_Attrs, r_85_Kids, hf111, e109⟩ := hv104 3 rfl 30 rfl
      have hA110 := hA107.add e109
      obtain ⟨B_90, hf114, hf115, e112⟩ := hv104 4 rfl 7 rfl
      have hA113 := hA110.add e112
      obtain ⟨B_95, hf118, hf119, e116⟩ := hv104 5 rfl 8 rfl
      have hA117 := hA113.add e116
      have hne120 : B_90 ≠ B_95 := by have h := hap105 4 5 rfl 7 8 rfl rfl; rw [e112, e116] at h; exact h
      have hB121 := hB74.ext hE102
      have hB122 := hB75.ext hE102
      have hC123 : Chg [] w72 w101 := hE102
      have ht124 := ht89 w101 r_79_Kind r_79_Name r_79_Text r_79_Attrs r_79_Kids r_85_Kind r_85_Name r_85_Text r_85_Attrs r_85_Kids B_90 B_95 hE102 hf108 hf111 hf114 hf115 hf118 hf119
      have hne125 : B_4 ≠ B_90 := Nat.ne_of_lt (Nat.lt_of_lt_of_le hB74.lt hf114)
      have hne126 : B_12 ≠ B_90 := Nat.ne_of_lt (Nat.lt_of_lt_of_le hB75.lt hf114)
      have hne127 : B_4 ≠ B_95 := Nat.ne_of_lt (Nat.lt_of_lt_of_le hB74.lt hf118)
      have hne128 : B_12 ≠ B_95 := Nat.ne_of_lt (Nat.lt_of_lt_of_le hB75.lt hf118)
      refine one (D := [[], [0], [], [0, 1, 2], [], [], [0, 1, 2, 3, 4, 5], [0, 1, 2, 3, 4, 5, 6]]) (i := 6) rfl (by kernel_rfl) (opk_store hA117 hf115 (r_store (vs := [.int .i64 r_79_Kind, .string (Bs r_79_Name), .string (Bs r_79_Text), Sl.v r_79_Attrs, Sl.v r_79_Kids]) (hA117.get rfl) (hA117.get rfl) rfl ti_26 hf115 rfl (ones_all [.int .i64 r_79_Kind, .string (Bs r_79_Name), .string (Bs r_79_Text), Sl.v r_79_Attrs, Sl.v r_79_Kids] rfl)) fun a130 w129 hS131 hB132 hA130 => ?_)
      have hB133 : Box w129 B_90 26 [.int .i64 r_79_Kind, .string (Bs r_79_Name), .string (Bs r_79_Text), Sl.v r_79_Attrs, Sl.v r_79_Kids] := hB132
      have hB134 := hB121.keep hS131 (by simpa using hne125)
      have hB135 := hB122.keep hS131 (by simpa using hne126)
      have hB136 := hf119.keep hS131 (by simpa using hne120.symm)
      have hC137 : Chg [B_90] w101 w129 := hS131
      refine one (D := [[], [0], [], [0, 1, 2], [], [], [0, 1, 2, 3, 4, 5], [0, 1, 2, 3, 4, 5, 6]]) (i := 7) rfl (by kernel_rfl) (opk_store hA130 hB136 (r_store (vs := [.int .i64 r_85_Kind, .string (Bs r_85_Name), .string (Bs r_85_Text), Sl.v r_85_Attrs, Sl.v r_85_Kids]) (hA130.get rfl) (hA130.get rfl) rfl ti_26 hB136 rfl (ones_all [.int .i64 r_85_Kind, .string (Bs r_85_Name), .string (Bs r_85_Text), Sl.v r_85_Attrs, Sl.v r_85_Kids] rfl)) fun a139 w138 hS140 hB141 hA139 => ?_)
      have hB142 : Box w138 B_95 26 [.int .i64 r_85_Kind, .string (Bs r_85_Name), .string (Bs r_85_Text), Sl.v r_85_Attrs, Sl.v r_85_Kids] := hB141
      have hB143 := hB134.keep hS140 (by simpa using hne127)
      have hB144 := hB135.keep hS140 (by simpa using hne128)
      have hB145 := hB133.keep hS140 (by simpa using hne120)
      have hC146 := hC137.storeOld hS140
      refine PR_end (by kernel_rfl) ?_
      have hA147 := hA139.keep [(2, .string (Bs name_3)), (3, .pointer (some ⟨B_4, 0, none⟩)), (4, .pointer (some ⟨B_12, 0, none⟩)), (7, .pointer (some ⟨B_90, 0, none⟩)), (8, .pointer (some ⟨B_95, 0, none⟩))] ⟨rfl, rfl, rfl, rfl, rfl, trivial⟩
      refine then_normal ?_
      refine wp_seq ?_
      refine wp_region_lit ?_
      refine sq (opk_val hA147 rfl (r_loadN (cs := [.int .i64 r_79_Kind, .string (Bs r_79_Name), .string (Bs r_79_Text), Sl.v r_79_Attrs, Sl.v r_79_Kids]) Try.underlying26 rfl ti_26 (hA147.get rfl) (hB145.part 0 _ rfl)) fun a148 hA148 _ => ?_)
      refine sq (opk_val hA148 rfl (r_move (hA148.get rfl)) fun a149 hA149 _ => ?_)
      have ht150 := ht124 w138    hC146
      refine sq (opk_call hA149 rfl (r_call (args := #[.agg #[.int .i64 r_79_Kind, .string (Bs r_79_Name), .string (Bs r_79_Text), Sl.v r_79_Attrs, Sl.v r_79_Kids], .string (Bs name_3)]) Try.func23 (by decide) rfl (map_arr (ml_cons (hA149.get rfl) (ml_cons (hA149.get rfl) ml_nil))) rfl) ht150 fun a153 v159 w154 hA153 _ hn156 hz157 hK158 => ?_)
      obtain ⟨r_0_151, r_1_152, rfl, ht155⟩ := hK158
      have hB160 := hB143.kept hn156 (.head _)
      have hB161 := hB144.kept hn156 (.tail _ (.head _))
      have hB162 := hB145.kept hn156 (.tail _ (.tail _ (.head _)))
      have hB163 := hB142.kept hn156 (.tail _ (.tail _ (.tail _ (.head _))))
      refine sq (opk_val hA153 rfl (r_move (hA153.get rfl)) fun a164 hA164 _ => ?_)
      refine sq (opk_val hA164 rfl (r_extract (hA164.get rfl) rfl) fun a165 hA165 _ => ?_)
      refine sq (opk_val hA165 rfl (r_extract (hA165.get rfl) rfl) fun a166 hA166 _ => ?_)
      refine sq (opk_val hA166 rfl (r_assign (hA166.get rfl)) fun a167 hA167 _ => ?_)
      refine sq (opk_val hA167 rfl (r_assign (hA167.get rfl)) fun a168 hA168 _ => ?_)
      refine sq_end ?_
      have hA169 := hA168.keep [(2, .string (Bs name_3)), (3, .pointer (some ⟨B_4, 0, none⟩)), (4, .pointer (some ⟨B_12, 0, none⟩)), (7, .pointer (some ⟨B_90, 0, none⟩)), (8, .pointer (some ⟨B_95, 0, none⟩)), (9, .string (Bs r_0_151)), (10, .bool r_1_152)] ⟨rfl, rfl, rfl, rfl, rfl, rfl, rfl, trivial⟩
      refine then_normal ?_
      refine wp_seq ?_
      refine wp_region_lit ?_
      refine sq (opk_val hA169 rfl (r_fieldAddr (hA169.get rfl) Try.underlying26 rfl ti_23 (by decide)) fun a170 hA170 _ => ?_)
      refine sq (opk_val hA170 rfl (r_load1 Try.underlying23 rfl (hA170.get rfl) (hB160.cell 3 _ rfl)) fun a171 hA171 _ => ?_)
      refine sq (opk_val hA171 rfl (r_move (hA171.get rfl)) fun a172 hA172 _ => ?_)
      refine sq (opk_call hA172 rfl (r_call (args := #[Sl.v a_1_Attrs, .string (Bs name_3)]) Try.func26 (by decide) rfl (map_arr (ml_cons (hA172.get rfl) (ml_cons (hA172.get rfl) ml_nil))) rfl) ht155 fun a175 v181 w176 hA175 _ hn178 hz179 hK180 => ?_)
      obtain ⟨r_0_173, r_1_174, rfl, ht177⟩ := hK180
      have hB182 := hB160.kept hn178 (.head _)
      have hB183 := hB161.kept hn178 (.tail _ (.head _))
      have hB184 := hB162.kept hn178 (.tail _ (.tail _ (.head _)))
      have hB185 := hB163.kept hn178 (.tail _ (.tail _ (.tail _ (.head _))))
      refine sq (opk_val hA175 rfl (r_move (hA175.get rfl)) fun a186 hA186 _ => ?_)
      refine sq (opk_val hA186 rfl (r_extract (hA186.get rfl) rfl) fun a187 hA187 _ => ?_)
      refine sq (opk_val hA187 rfl (r_extract (hA187.get rfl) rfl) fun a188 hA188 _ => ?_)
      refine sq (opk_val hA188 rfl (r_assign (hA188.get rfl)) fun a189 hA189 _ => ?_)
      refine sq (opk_val hA189 rfl (r_assign (hA189.get rfl)) fun a190 hA190 _ => ?_)
      refine sq_end ?_
      have hA191 := hA190.keep [(2, .string (Bs name_3)), (3, .pointer (some ⟨B_4, 0, none⟩)), (4, .pointer (some ⟨B_12, 0, none⟩)), (7, .pointer (some ⟨B_90, 0, none⟩)), (8, .pointer (some ⟨B_95, 0, none⟩)), (9, .string (Bs r_0_151)), (10, .bool r_1_152), (11, .string (Bs r_0_173)), (12, .bool r_1_174)] ⟨rfl, rfl, rfl, rfl, rfl, rfl, rfl, rfl, rfl, trivial⟩
      refine then_normal ?_
      refine wp_seq ?_
      refine draw' (by kernel_rfl) fun w192 hE193 => ?_
      have hB194 := hB182.ext hE193
      have hB195 := hB183.ext hE193
      have hB196 := hB184.ext hE193
      have hB197 := hB185.ext hE193
      have hC198 : Chg [] w176 w192 := hE193
      have ht199 := ht177 w192    hC198
      obtain ⟨r_201, hc202, ht203⟩ := ht199
      obtain ⟨r_205, hc206, ht207⟩ := ht203
      obtain ⟨r_214, hc215, ht216⟩ := ht207
      obtain ⟨r_220, hc221, ht222⟩ := ht216
      obtain ⟨r_232, hc233, ht234⟩ := ht222
      obtain ⟨r_238, hc239, ht240⟩ := ht234
      obtain ⟨r_250, hc251, ht252⟩ := ht240
      obtain ⟨r_256, hc257, ht258⟩ := ht252
      obtain ⟨r_268, hc269, ht270⟩ := ht258
      obtain ⟨r_274, hc275, ht276⟩ := ht270
      obtain ⟨r_288, hc289, ht290⟩ := ht276
      obtain ⟨r_296, hc297, ht298⟩ := ht290
      obtain ⟨r_310, hc311, ht312⟩ := ht298
      obtain ⟨r_318, hc319, ht320⟩ := ht312
      obtain ⟨r_348, hc349, ht350⟩ := ht320
      obtain ⟨r_355, hc356, ht357⟩ := ht350
      refine par (D := [[], [0], [], [0, 1, 2], [0, 1, 2, 3], [0, 1, 2, 3, 4], [0, 1, 2, 3, 4, 5], [0, 1, 2, 3, 4, 5, 6], [0, 1, 2, 3, 4, 5], [0, 1, 2, 3, 4, 5, 6, 7, 8], [0, 1, 2, 3, 4, 5, 6, 7, 8, 9], [0, 1, 2, 3, 4, 5, 6, 7, 8, 9, 10], [0, 1, 2, 3, 4, 5, 6, 7, 8, 9, 10, 11], [0, 1, 2, 3, 4, 5, 6, 7, 8, 9, 10, 11, 12], [0, 1, 2, 3, 4, 5, 6, 7, 8, 9, 10, 11, 12, 13], [0, 1, 2, 3, 4, 5, 6, 7, 8, 9, 10, 11, 12], [0, 1, 2, 3, 4, 5, 6, 7, 8, 9, 10, 11, 12, 13, 14, 15], [0, 1, 2, 3, 4, 5, 6, 7, 8, 9, 10, 11, 12, 13, 14, 15, 16], [0, 1, 2, 3, 4, 5, 6, 7, 8, 9, 10, 11, 12, 13, 14, 15, 16, 17], [0, 1, 2, 3, 4, 5, 6, 7, 8, 9, 10, 11, 12, 13, 14, 15, 16, 17, 18], [0, 1, 2, 3, 4, 5, 6, 7, 8, 9, 10, 11, 12, 13, 14, 15, 16, 17, 18, 19], [0, 1, 2, 3, 4, 5, 6, 7, 8, 9, 10, 11, 12, 13, 14, 15, 16, 17, 18, 19, 20], [0, 1, 2, 3, 4, 5, 6, 7, 8, 9, 10, 11, 12, 13, 14, 15, 16, 17, 18, 19], [0, 1, 2, 3, 4, 5, 6, 7, 8, 9, 10, 11, 12, 13, 14, 15, 16, 17, 18, 19, 20, 21, 22], [0, 1, 2, 3, 4, 5, 6, 7, 8, 9, 10, 11, 12, 13, 14, 15, 16, 17, 18, 19, 20, 21, 22, 23], [0, 1, 2, 3, 4, 5, 6, 7, 8, 9, 10, 11, 12, 13, 14, 15, 16, 17, 18, 19, 20, 21, 22, 23, 24], [0, 1, 2, 3, 4, 5, 6, 7, 8, 9, 10, 11, 12, 13, 14, 15, 16, 17, 18, 19, 20, 21, 22, 23, 24, 25], [0, 1, 2, 3, 4, 5, 6, 7, 8, 9, 10, 11, 12, 13, 14, 15, 16, 17, 18, 19, 20, 21, 22, 23, 24, 25, 26], [0, 1, 2, 3, 4, 5, 6, 7, 8, 9, 10, 11, 12, 13, 14, 15, 16, 17, 18, 19, 20, 21, 22, 23, 24, 25, 26, 27], [0, 1, 2, 3, 4, 5, 6, 7, 8, 9, 10, 11, 12, 13, 14, 15, 16, 17, 18, 19, 20, 21, 22, 23, 24, 25, 26], [0, 1, 2, 3, 4, 5, 6, 7, 8, 9, 10, 11, 12, 13, 14, 15, 16, 17, 18, 19, 20, 21, 22, 23, 24, 25, 26, 27, 28, 29], [0, 1, 2, 3, 4, 5, 6, 7, 8, 9, 10, 11, 12, 13, 14, 15, 16, 17, 18, 19, 20, 21, 22, 23, 24, 25, 26, 27, 28, 29, 30], [0, 1, 2, 3, 4, 5, 6, 7, 8, 9, 10, 11, 12, 13, 14, 15, 16, 17, 18, 19, 20, 21, 22, 23, 24, 25, 26, 27, 28, 29, 30, 31], [0, 1, 2, 3, 4, 5, 6, 7, 8, 9, 10, 11, 12, 13, 14, 15, 16, 17, 18, 19, 20, 21, 22, 23, 24, 25, 26, 27, 28, 29, 30, 31, 32], [0, 1, 2, 3, 4, 5, 6, 7, 8, 9, 10, 11, 12, 13, 14, 15, 16, 17, 18, 19, 20, 21, 22, 23, 24, 25, 26, 27, 28, 29, 30, 31, 32, 33], [0, 1, 2, 3, 4, 5, 6, 7, 8, 9, 10, 11, 12, 13, 14, 15, 16, 17, 18, 19, 20, 21, 22, 23, 24, 25, 26, 27, 28, 29, 30, 31, 32, 33], [0, 1, 2, 3, 4, 5, 6, 7, 8, 9, 10, 11, 12, 13, 14, 15, 16, 17, 18, 19, 20, 21, 22, 23, 24, 25, 26, 27, 28, 29, 30, 31, 32, 33, 34, 35], [0, 1, 2, 3, 4, 5, 6, 7, 8, 9, 10, 11, 12, 13, 14, 15, 16, 17, 18, 19, 20, 21, 22, 23, 24, 25, 26, 27, 28, 29, 30, 31, 32, 33], [0, 1, 2, 3, 4, 5, 6, 7, 8, 9, 10, 11, 12, 13, 14, 15, 16, 17, 18, 19, 20, 21, 22, 23, 24, 25, 26, 27, 28, 29, 30, 31, 32, 33], [0, 1, 2, 3, 4, 5, 6, 7, 8, 9, 10, 11, 12, 13, 14, 15, 16, 17, 18, 19, 20, 21, 22, 23, 24, 25, 26, 27, 28, 29, 30, 31, 32, 33, 34, 35, 36, 37, 38], [0, 1, 2, 3, 4, 5, 6, 7, 8, 9, 10, 11, 12, 13, 14, 15, 16, 17, 18, 19, 20, 21, 22, 23, 24, 25, 26, 27, 28, 29, 30, 31, 32, 33, 34, 35, 36, 37, 38, 39], [0, 1, 2, 3, 4, 5, 6, 7, 8, 9, 10, 11, 12, 13, 14, 15, 16, 17, 18, 19, 20, 21, 22, 23, 24, 25, 26, 27, 28, 29, 30, 31, 32, 33, 34, 35, 36, 37, 38, 39, 40], [0, 1, 2, 3, 4, 5, 6, 7, 8, 9, 10, 11, 12, 13, 14, 15, 16, 17, 18, 19, 20, 21, 22, 23, 24, 25, 26, 27, 28, 29, 30, 31, 32, 33, 34, 35, 36, 37, 38, 39, 40, 41], [0, 1, 2, 3, 4, 5, 6, 7, 8, 9, 10, 11, 12, 13, 14, 15, 16, 17, 18, 19, 20, 21, 22, 23, 24, 25, 26, 27, 28, 29, 30, 31, 32, 33, 34, 35, 36, 37, 38, 39, 40, 41, 42], [0, 1, 2, 3, 4, 5, 6, 7, 8, 9, 10, 11, 12, 13, 14, 15, 16, 17, 18, 19, 20, 21, 22, 23, 24, 25, 26, 27, 28, 29, 30, 31, 32, 33, 34, 35, 36, 37, 38, 39, 40, 41, 42], [0, 1, 2, 3, 4, 5, 6, 7, 8, 9, 10, 11, 12, 13, 14, 15, 16, 17, 18, 19, 20, 21, 22, 23, 24, 25, 26, 27, 28, 29, 30, 31, 32, 33, 34, 35, 36, 37, 38, 39, 40, 41, 42, 43, 44], [0, 1, 2, 3, 4, 5, 6, 7, 8, 9, 10, 11, 12, 13, 14, 15, 16, 17, 18, 19, 20, 21, 22, 23, 24, 25, 26, 27, 28, 29, 30, 31, 32, 33, 34, 35, 36, 37, 38, 39, 40, 41, 42], [0, 1, 2, 3, 4, 5, 6, 7, 8, 9, 10, 11, 12, 13, 14, 15, 16, 17, 18, 19, 20, 21, 22, 23, 24, 25, 26, 27, 28, 29, 30, 31, 32, 33, 34, 35, 36, 37, 38, 39, 40, 41, 42], [0, 1, 2, 3, 4, 5, 6, 7, 8, 9, 10, 11, 12, 13, 14, 15, 16, 17, 18, 19, 20, 21, 22, 23, 24, 25, 26, 27, 28, 29, 30, 31, 32, 33, 34, 35, 36, 37, 38, 39, 40, 41, 42, 43, 44, 45, 46, 47], [0, 1, 2, 3, 4, 5, 6, 7, 8, 9, 10, 11, 12, 13, 14, 15, 16, 17, 18, 19, 20, 21, 22, 23, 24, 25, 26, 27, 28, 29, 30, 31, 32, 33, 34, 35, 36, 37, 38, 39, 40, 41, 42, 43, 44, 45, 46, 47, 48], [0, 1, 2, 3, 4, 5, 6, 7, 8, 9, 10, 11, 12, 13, 14, 15, 16, 17, 18, 19, 20, 21, 22, 23, 24, 25, 26, 27, 28, 29, 30, 31, 32, 33, 34, 35, 36, 37, 38, 39, 40, 41, 42, 43, 44, 45, 46, 47, 48, 49], [0, 1, 2, 3, 4, 5, 6, 7, 8, 9, 10, 11, 12, 13, 14, 15, 16, 17, 18, 19, 20, 21, 22, 23, 24, 25, 26, 27, 28, 29, 30, 31, 32, 33, 34, 35, 36, 37, 38, 39, 40, 41, 42, 43, 44, 45, 46, 47, 48, 49, 50], [0, 1, 2, 3, 4, 5, 6, 7, 8, 9, 10, 11, 12, 13, 14, 15, 16, 17, 18, 19, 20, 21, 22, 23, 24, 25, 26, 27, 28, 29, 30, 31, 32, 33, 34, 35, 36, 37, 38, 39, 40, 41, 42, 43, 44, 45, 46, 47, 48, 49, 50, 51], [0, 1, 2, 3, 4, 5, 6, 7, 8, 9, 10, 11, 12, 13, 14, 15, 16, 17, 18, 19, 20, 21, 22, 23, 24, 25, 26, 27, 28, 29, 30, 31, 32, 33, 34, 35, 36, 37, 38, 39, 40, 41, 42, 43, 44, 45, 46, 47, 48, 49, 50, 51], [0, 1, 2, 3, 4, 5, 6, 7, 8, 9, 10, 11, 12, 13, 14, 15, 16, 17, 18, 19, 20, 21, 22, 23, 24, 25, 26, 27, 28, 29, 30, 31, 32, 33, 34, 35, 36, 37, 38, 39, 40, 41, 42, 43, 44, 45, 46, 47, 48, 49, 50, 51, 52, 53], [0, 1, 2, 3, 4, 5, 6, 7, 8, 9, 10, 11, 12, 13, 14, 15, 16, 17, 18, 19, 20, 21, 22, 23, 24, 25, 26, 27, 28, 29, 30, 31, 32, 33, 34, 35, 36, 37, 38, 39, 40, 41, 42, 43, 44, 45, 46, 47, 48, 49, 50, 51, 52, 53, 54], [0, 1, 2, 3, 4, 5, 6, 7, 8, 9, 10, 11, 12, 13, 14, 15, 16, 17, 18, 19, 20, 21, 22, 23, 24, 25, 26, 27, 28, 29, 30, 31, 32, 33, 34, 35, 36, 37, 38, 39, 40, 41, 42, 43, 44, 45, 46, 47, 48, 49, 50, 51, 52, 53, 54, 55], [0, 1, 2, 3, 4, 5, 6, 7, 8, 9, 10, 11, 12, 13, 14, 15, 16, 17, 18, 19, 20, 21, 22, 23, 24, 25, 26, 27, 28, 29, 30, 31, 32, 33, 34, 35, 36, 37, 38, 39, 40, 41, 42, 43, 44, 45, 46, 47, 48, 49, 50, 51, 52, 53, 54, 55, 56], [0, 1, 2, 3, 4, 5, 6, 7, 8, 9, 10, 11, 12, 13, 14, 15, 16, 17, 18, 19, 20, 21, 22, 23, 24, 25, 26, 27, 28, 29, 30, 31, 32, 33, 34, 35, 36, 37, 38, 39, 40, 41, 42, 43, 44, 45, 46, 47, 48, 49, 50, 51, 52, 53, 54, 55, 56], [0, 1, 2, 3, 4, 5, 6, 7, 8, 9, 10, 11, 12, 13, 14, 15, 16, 17, 18, 19, 20, 21, 22, 23, 24, 25, 26, 27, 28, 29, 30, 31, 32, 33, 34, 35, 36, 37, 38, 39, 40, 41, 42, 43, 44, 45, 46, 47, 48, 49, 50, 51, 52, 53, 54, 55, 56, 57, 58], [0, 1, 2, 3, 4, 5, 6, 7, 8, 9, 10, 11, 12, 13, 14, 15, 16, 17, 18, 19, 20, 21, 22, 23, 24, 25, 26, 27, 28, 29, 30, 31, 32, 33, 34, 35, 36, 37, 38, 39, 40, 41, 42, 43, 44, 45, 46, 47, 48, 49, 50, 51, 52, 53, 54, 55, 56, 57, 58, 59], [0, 1, 2, 3, 4, 5, 6, 7, 8, 9, 10, 11, 12, 13, 14, 15, 16, 17, 18, 19, 20, 21, 22, 23, 24, 25, 26, 27, 28, 29, 30, 31, 32, 33, 34, 35, 36, 37, 38, 39, 40, 41, 42, 43, 44, 45, 46, 47, 48, 49, 50, 51, 52, 53, 54, 55, 56, 57, 58, 59, 60], [0, 1, 2, 3, 4, 5, 6, 7, 8, 9, 10, 11, 12, 13, 14, 15, 16, 17, 18, 19, 20, 21, 22, 23, 24, 25, 26, 27, 28, 29, 30, 31, 32, 33, 34, 35, 36, 37, 38, 39, 40, 41, 42, 43, 44, 45, 46, 47, 48, 49, 50, 51, 52, 53, 54, 55, 56, 57, 58, 59, 60, 61], [0, 1, 2, 3, 4, 5, 6, 7, 8, 9, 10, 11, 12, 13, 14, 15, 16, 17, 18, 19, 20, 21, 22, 23, 24, 25, 26, 27, 28, 29, 30, 31, 32, 33, 34, 35, 36, 37, 38, 39, 40, 41, 42, 43, 44, 45, 46, 47, 48, 49, 50, 51, 52, 53, 54, 55, 56, 57, 58, 59, 60, 61], [0, 1, 2, 3, 4, 5, 6, 7, 8, 9, 10, 11, 12, 13, 14, 15, 16, 17, 18, 19, 20, 21, 22, 23, 24, 25, 26, 27, 28, 29, 30, 31, 32, 33, 34, 35, 36, 37, 38, 39, 40, 41, 42, 43, 44, 45, 46, 47, 48, 49, 50, 51, 52, 53, 54, 55, 56, 57, 58, 59, 60, 61, 62, 63], [0, 1, 2, 3, 4, 5, 6, 7, 8, 9, 10, 11, 12, 13, 14, 15, 16, 17, 18, 19, 20, 21, 22, 23, 24, 25, 26, 27, 28, 29, 30, 31, 32, 33, 34, 35, 36, 37, 38, 39, 40, 41, 42, 43, 44, 45, 46, 47, 48, 49, 50, 51, 52, 53, 54, 55, 56, 57, 58, 59, 60, 61, 62, 63, 64], [0, 1, 2, 3, 4, 5, 6, 7, 8, 9, 10, 11, 12, 13, 14, 15, 16, 17, 18, 19, 20, 21, 22, 23, 24, 25, 26, 27, 28, 29, 30, 31, 32, 33, 34, 35, 36, 37, 38, 39, 40, 41, 42, 43, 44, 45, 46, 47, 48, 49, 50, 51, 52, 53, 54, 55, 56, 57, 58, 59, 60, 61, 62, 63, 64, 65], [0, 1, 2, 3, 4, 5, 6, 7, 8, 9, 10, 11, 12, 13, 14, 15, 16, 17, 18, 19, 20, 21, 22, 23, 24, 25, 26, 27, 28, 29, 30, 31, 32, 33, 34, 35, 36, 37, 38, 39, 40, 41, 42, 43, 44, 45, 46, 47, 48, 49, 50, 51, 52, 53, 54, 55, 56, 57, 58, 59, 60, 61, 62, 63, 64, 65, 66], [0, 1, 2, 3, 4, 5, 6, 7, 8, 9, 10, 11, 12, 13, 14, 15, 16, 17, 18, 19, 20, 21, 22, 23, 24, 25, 26, 27, 28, 29, 30, 31, 32, 33, 34, 35, 36, 37, 38, 39, 40, 41, 42, 43, 44, 45, 46, 47, 48, 49, 50, 51, 52, 53, 54, 55, 56, 57, 58, 59, 60, 61, 62, 63, 64, 65, 66, 67], [0, 1, 2, 3, 4, 5, 6, 7, 8, 9, 10, 11, 12, 13, 14, 15, 16, 17, 18, 19, 20, 21, 22, 23, 24, 25, 26, 27, 28, 29, 30, 31, 32, 33, 34, 35, 36, 37, 38, 39, 40, 41, 42, 43, 44, 45, 46, 47, 48, 49, 50, 51, 52, 53, 54, 55, 56, 57, 58, 59, 60, 61, 62, 63, 64, 65, 66, 67, 68]]) (S := [0, 1, 2, 3, 4, 5, 6, 7, 8, 9, 10, 11, 12, 13, 14, 15, 16, 17, 18, 19, 20, 21, 22, 23, 24, 25, 26, 27, 28, 29, 30, 31, 32, 33, 34, 35, 36, 37, 38, 39, 40, 41, 42, 43, 44, 45, 46, 47, 48, 49, 50, 51, 52, 53, 54, 55, 56, 57, 58, 59, 60, 61, 62, 63, 64, 65, 66, 67, 68, 69]) (F := []) (V := VL ((0, fun v _ => v = .agg #[.int .i64 r_79_Kind, .string (Bs r_79_Name), .string (Bs r_79_Text), Sl.v r_79_Attrs, Sl.v r_79_Kids]) :: (1, fun v _ => v = .bool r_201) :: (2, fun v _ => v = .agg #[.int .i64 a_1_Kind, .string (Bs a_1_Name), .string (Bs a_1_Text), Sl.v a_1_Attrs, Sl.v a_1_Kids]) :: (3, fun v _ => v = .bool r_205) :: (4, fun v _ => v = .bool (r_201 == r_205)) :: (5, fun v _ => v = .bool (r_201 == r_205)) :: (6, fun v _ => v = cV (true && ((r_201 == r_205) == true)) (.string (Bs name_3))) :: (7, fun v _ => v = cV (true && ((r_201 == r_205) == true)) (.bool r_214)) :: (8, fun v _ => v = cV (true && ((r_201 == r_205) == true)) (.string (Bs name_3))) :: (9, fun v _ => v = cV (true && ((r_201 == r_205) == true)) (.bool r_220)) :: (10, fun v _ => v = cV (true && ((r_201 == r_205) == true)) (.bool (r_214 == r_220))) :: (11, fun v _ => v = .bool ((r_201 == r_205) && (r_214 == r_220))) :: (12, fun v _ => v = .bool ((r_201 == r_205) && (r_214 == r_220))) :: (13, fun v _ => v = cV (true && (((r_201 == r_205) && (r_214 == r_220)) == true)) (.agg #[.int .i64 r_79_Kind, .string (Bs r_79_Name), .string (Bs r_79_Text), Sl.v r_79_Attrs, Sl.v r_79_Kids])) :: (14, fun v _ => v = cV (true && (((r_201 == r_205) && (r_214 == r_220)) == true)) (.int .i64 r_232)) :: (15, fun v _ => v = cV (true && (((r_201 == r_205) && (r_214 == r_220)) == true)) (.agg #[.int .i64 a_1_Kind, .string (Bs a_1_Name), .string (Bs a_1_Text), Sl.v a_1_Attrs, Sl.v a_1_Kids])) :: (16, fun v _ => v = cV (true && (((r_201 == r_205) && (r_214 == r_220)) == true)) (.int .i64 r_238)) :: (17, fun v _ => v = cV (true && (((r_201 == r_205) && (r_214 == r_220)) == true)) (.bool (decide (r_232 = r_238)))) :: (18, fun v _ => v = .bool (((r_201 == r_205) && (r_214 == r_220)) && (decide (r_232 = r_238)))) :: (19, fun v _ => v = .bool (((r_201 == r_205) && (r_214 == r_220)) && (decide (r_232 = r_238)))) :: (20, fun v _ => v = cV (true && ((((r_201 == r_205) && (r_214 == r_220)) && (decide (r_232 = r_238))) == true)) (.agg #[.int .i64 r_79_Kind, .string (Bs r_79_Name), .string (Bs r_79_Text), Sl.v r_79_Attrs, Sl.v r_79_Kids])) :: (21, fun v _ => v = cV (true && ((((r_201 == r_205) && (r_214 == r_220)) && (decide (r_232 = r_238))) == true)) (.int .i64 r_250)) :: (22, fun v _ => v = cV (true && ((((r_201 == r_205) && (r_214 == r_220)) && (decide (r_232 = r_238))) == true)) (.agg #[.int .i64 a_1_Kind, .string (Bs a_1_Name), .string (Bs a_1_Text), Sl.v a_1_Attrs, Sl.v a_1_Kids])) :: (23, fun v _ => v = cV (true && ((((r_201 == r_205) && (r_214 == r_220)) && (decide (r_232 = r_238))) == true)) (.int .i64 r_256)) :: (24, fun v _ => v = cV (true && ((((r_201 == r_205) && (r_214 == r_220)) && (decide (r_232 = r_238))) == true)) (.bool (decide (r_250 = r_256)))) :: (25, fun v _ => v = .bool ((((r_201 == r_205) && (r_214 == r_220)) && (decide (r_232 = r_238))) && (decide (r_250 = r_256)))) :: (26, fun v _ => v = .bool ((((r_201 == r_205) && (r_214 == r_220)) && (decide (r_232 = r_238))) && (decide (r_250 = r_256)))) :: (27, fun v _ => v = cV (true && (((((r_201 == r_205) && (r_214 == r_220)) && (decide (r_232 = r_238))) && (decide (r_250 = r_256))) == true)) (.agg #[.int .i64 r_79_Kind, .string (Bs r_79_Name), .string (Bs r_79_Text), Sl.v r_79_Attrs, Sl.v r_79_Kids])) :: (28, fun v _ => v = cV (true && (((((r_201 == r_205) && (r_214 == r_220)) && (decide (r_232 = r_238))) && (decide (r_250 = r_256))) == true)) (.int .i64 r_268)) :: (29, fun v _ => v = cV (true && (((((r_201 == r_205) && (r_214 == r_220)) && (decide (r_232 = r_238))) && (decide (r_250 = r_256))) == true)) (.agg #[.int .i64 a_1_Kind, .string (Bs a_1_Name), .string (Bs a_1_Text), Sl.v a_1_Attrs, Sl.v a_1_Kids])) :: (30, fun v _ => v = cV (true && (((((r_201 == r_205) && (r_214 == r_220)) && (decide (r_232 = r_238))) && (decide (r_250 = r_256))) == true)) (.int .i64 r_274)) :: (31, fun v _ => v = cV (true && (((((r_201 == r_205) && (r_214 == r_220)) && (decide (r_232 = r_238))) && (decide (r_250 = r_256))) == true)) (.bool (decide (r_268 = r_274)))) :: (32, fun v _ => v = .bool (((((r_201 == r_205) && (r_214 == r_220)) && (decide (r_232 = r_238))) && (decide (r_250 = r_256))) && (decide (r_268 = r_274)))) :: (33, fun v _ => v = .bool (((((r_201 == r_205) && (r_214 == r_220)) && (decide (r_232 = r_238))) && (decide (r_250 = r_256))) && (decide (r_268 = r_274)))) :: (34, fun v _ => v = cV (true && ((((((r_201 == r_205) && (r_214 == r_220)) && (decide (r_232 = r_238))) && (decide (r_250 = r_256))) && (decide (r_268 = r_274))) == true)) (.agg #[.int .i64 r_79_Kind, .string (Bs r_79_Name), .string (Bs r_79_Text), Sl.v r_79_Attrs, Sl.v r_79_Kids])) :: (35, fun v _ => v = cV (true && ((((((r_201 == r_205) && (r_214 == r_220)) && (decide (r_232 = r_238))) && (decide (r_250 = r_256))) && (decide (r_268 = r_274))) == true)) (.agg #[.int .i64 r_85_Kind, .string (Bs r_85_Name), .string (Bs r_85_Text), Sl.v r_85_Attrs, Sl.v r_85_Kids])) :: (36, fun v _ => v = cV (true && ((((((r_201 == r_205) && (r_214 == r_220)) && (decide (r_232 = r_238))) && (decide (r_250 = r_256))) && (decide (r_268 = r_274))) == true)) (.bool r_288)) :: (37, fun v _ => v = cV (true && ((((((r_201 == r_205) && (r_214 == r_220)) && (decide (r_232 = r_238))) && (decide (r_250 = r_256))) && (decide (r_268 = r_274))) == true)) (.agg #[.int .i64 a_1_Kind, .string (Bs a_1_Name), .string (Bs a_1_Text), Sl.v a_1_Attrs, Sl.v a_1_Kids])) :: (38, fun v _ => v = cV (true && ((((((r_201 == r_205) && (r_214 == r_220)) && (decide (r_232 = r_238))) && (decide (r_250 = r_256))) && (decide (r_268 = r_274))) == true)) (.agg #[.int .i64 b_2_Kind, .string (Bs b_2_Name), .string (Bs b_2_Text), Sl.v b_2_Attrs, Sl.v b_2_Kids])) :: (39, fun v _ => v = cV (true && ((((((r_201 == r_205) && (r_214 == r_220)) && (decide (r_232 = r_238))) && (decide (r_250 = r_256))) && (decide (r_268 = r_274))) == true)) (.bool r_296)) :: (40, fun v _ => v = cV (true && ((((((r_201 == r_205) && (r_214 == r_220)) && (decide (r_232 = r_238))) && (decide (r_250 = r_256))) && (decide (r_268 = r_274))) == true)) (.bool (r_288 == r_296))) :: (41, fun v _ => v = .bool ((((((r_201 == r_205) && (r_214 == r_220)) && (decide (r_232 = r_238))) && (decide (r_250 = r_256))) && (decide (r_268 = r_274))) && (r_288 == r_296))) :: (42, fun v _ => v = .bool ((((((r_201 == r_205) && (r_214 == r_220)) && (decide (r_232 = r_238))) && (decide (r_250 = r_256))) && (decide (r_268 = r_274))) && (r_288 == r_296))) :: (43, fun v _ => v = cV (true && (((((((r_201 == r_205) && (r_214 == r_220)) && (decide (r_232 = r_238))) && (decide (r_250 = r_256))) && (decide (r_268 = r_274))) && (r_288 == r_296)) == true)) (.agg #[.int .i64 r_79_Kind, .string (Bs r_79_Name), .string (Bs r_79_Text), Sl.v r_79_Attrs, Sl.v r_79_Kids])) :: (44, fun v _ => v = cV (true && (((((((r_201 == r_205) && (r_214 == r_220)) && (decide (r_232 = r_238))) && (decide (r_250 = r_256))) && (decide (r_268 = r_274))) && (r_288 == r_296)) == true)) (.agg #[.int .i64 r_85_Kind, .string (Bs r_85_Name), .string (Bs r_85_Text), Sl.v r_85_Attrs, Sl.v r_85_Kids])) :: (45, fun v _ => v = cV (true && (((((((r_201 == r_205) && (r_214 == r_220)) && (decide (r_232 = r_238))) && (decide (r_250 = r_256))) && (decide (r_268 = r_274))) && (r_288 == r_296)) == true)) (.int .i64 r_310)) :: (46, fun v _ => v = cV (true && (((((((r_201 == r_205) && (r_214 == r_220)) && (decide (r_232 = r_238))) && (decide (r_250 = r_256))) && (decide (r_268 = r_274))) && (r_288 == r_296)) == true)) (.agg #[.int .i64 a_1_Kind, .string (Bs a_1_Name), .string (Bs a_1_Text), Sl.v a_1_Attrs, Sl.v a_1_Kids])) :: (47, fun v _ => v = cV (true && (((((((r_201 == r_205) && (r_214 == r_220)) && (decide (r_232 = r_238))) && (decide (r_250 = r_256))) && (decide (r_268 = r_274))) && (r_288 == r_296)) == true)) (.agg #[.int .i64 b_2_Kind, .string (Bs b_2_Name), .string (Bs b_2_Text), Sl.v b_2_Attrs, Sl.v b_2_Kids])) :: (48, fun v _ => v = cV (true && (((((((r_201 == r_205) && (r_214 == r_220)) && (decide (r_232 = r_238))) && (decide (r_250 = r_256))) && (decide (r_268 = r_274))) && (r_288 == r_296)) == true)) (.int .i64 r_318)) :: (49, fun v _ => v = cV (true && (((((((r_201 == r_205) && (r_214 == r_220)) && (decide (r_232 = r_238))) && (decide (r_250 = r_256))) && (decide (r_268 = r_274))) && (r_288 == r_296)) == true)) (.bool (decide (r_310 = r_318)))) :: (50, fun v _ => v = .bool (((((((r_201 == r_205) && (r_214 == r_220)) && (decide (r_232 = r_238))) && (decide (r_250 = r_256))) && (decide (r_268 = r_274))) && (r_288 == r_296)) && (decide (r_310 = r_318)))) :: (51, fun v _ => v = .bool (((((((r_201 == r_205) && (r_214 == r_220)) && (decide (r_232 = r_238))) && (decide (r_250 = r_256))) && (decide (r_268 = r_274))) && (r_288 == r_296)) && (decide (r_310 = r_318)))) :: (52, fun v _ => v = cV (true && ((((((((r_201 == r_205) && (r_214 == r_220)) && (decide (r_232 = r_238))) && (decide (r_250 = r_256))) && (decide (r_268 = r_274))) && (r_288 == r_296)) && (decide (r_310 = r_318))) == true)) (.string (Bs r_0_151))) :: (53, fun v _ => v = cV (true && ((((((((r_201 == r_205) && (r_214 == r_220)) && (decide (r_232 = r_238))) && (decide (r_250 = r_256))) && (decide (r_268 = r_274))) && (r_288 == r_296)) && (decide (r_310 = r_318))) == true)) (.string (Bs r_0_173))) :: (54, fun v _ => v = cV (true && ((((((((r_201 == r_205) && (r_214 == r_220)) && (decide (r_232 = r_238))) && (decide (r_250 = r_256))) && (decide (r_268 = r_274))) && (r_288 == r_296)) && (decide (r_310 = r_318))) == true)) (.bool (decide (r_0_151 = r_0_173)))) :: (55, fun v _ => v = .bool ((((((((r_201 == r_205) && (r_214 == r_220)) && (decide (r_232 = r_238))) && (decide (r_250 = r_256))) && (decide (r_268 = r_274))) && (r_288 == r_296)) && (decide (r_310 = r_318))) && (decide (r_0_151 = r_0_173)))) :: (56, fun v _ => v = .bool ((((((((r_201 == r_205) && (r_214 == r_220)) && (decide (r_232 = r_238))) && (decide (r_250 = r_256))) && (decide (r_268 = r_274))) && (r_288 == r_296)) && (decide (r_310 = r_318))) && (decide (r_0_151 = r_0_173)))) :: (57, fun v _ => v = cV (true && (((((((((r_201 == r_205) && (r_214 == r_220)) && (decide (r_232 = r_238))) && (decide (r_250 = r_256))) && (decide (r_268 = r_274))) && (r_288 == r_296)) && (decide (r_310 = r_318))) && (decide (r_0_151 = r_0_173))) == true)) (.bool r_1_152)) :: (58, fun v _ => v = cV (true && (((((((((r_201 == r_205) && (r_214 == r_220)) && (decide (r_232 = r_238))) && (decide (r_250 = r_256))) && (decide (r_268 = r_274))) && (r_288 == r_296)) && (decide (r_310 = r_318))) && (decide (r_0_151 = r_0_173))) == true)) (.bool r_1_174)) :: (59, fun v _ => v = cV (true && (((((((((r_201 == r_205) && (r_214 == r_220)) && (decide (r_232 = r_238))) && (decide (r_250 = r_256))) && (decide (r_268 = r_274))) && (r_288 == r_296)) && (decide (r_310 = r_318))) && (decide (r_0_151 = r_0_173))) == true)) (.bool (r_1_152 == r_1_174))) :: (60, fun v _ => v = .bool (((((((((r_201 == r_205) && (r_214 == r_220)) && (decide (r_232 = r_238))) && (decide (r_250 = r_256))) && (decide (r_268 = r_274))) && (r_288 == r_296)) && (decide (r_310 = r_318))) && (decide (r_0_151 = r_0_173))) && (r_1_152 == r_1_174))) :: (61, fun v _ => v = .bool (((((((((r_201 == r_205) && (r_214 == r_220)) && (decide (r_232 = r_238))) && (decide (r_250 = r_256))) && (decide (r_268 = r_274))) && (r_288 == r_296)) && (decide (r_310 = r_318))) && (decide (r_0_151 = r_0_173))) && (r_1_152 == r_1_174))) :: (62, fun v _ => v = cV (true && ((((((((((r_201 == r_205) && (r_214 == r_220)) && (decide (r_232 = r_238))) && (decide (r_250 = r_256))) && (decide (r_268 = r_274))) && (r_288 == r_296)) && (decide (r_310 = r_318))) && (decide (r_0_151 = r_0_173))) && (r_1_152 == r_1_174)) == true)) (.agg #[.int .i64 r_79_Kind, .string (Bs r_79_Name), .string (Bs r_79_Text), Sl.v r_79_Attrs, Sl.v r_79_Kids])) :: (63, fun v _ => v = cV (true && ((((((((((r_201 == r_205) && (r_214 == r_220)) && (decide (r_232 = r_238))) && (decide (r_250 = r_256))) && (decide (r_268 = r_274))) && (r_288 == r_296)) && (decide (r_310 = r_318))) && (decide (r_0_151 = r_0_173))) && (r_1_152 == r_1_174)) == true)) (.agg #[.int .i64 a_1_Kind, .string (Bs a_1_Name), .string (Bs a_1_Text), Sl.v a_1_Attrs, Sl.v a_1_Kids])) :: (64, fun v _ => v = cV (true && ((((((((((r_201 == r_205) && (r_214 == r_220)) && (decide (r_232 = r_238))) && (decide (r_250 = r_256))) && (decide (r_268 = r_274))) && (r_288 == r_296)) && (decide (r_310 = r_318))) && (decide (r_0_151 = r_0_173))) && (r_1_152 == r_1_174)) == true)) (.bool r_348)) :: (65, fun v _ => v = .bool ((((((((((r_201 == r_205) && (r_214 == r_220)) && (decide (r_232 = r_238))) && (decide (r_250 = r_256))) && (decide (r_268 = r_274))) && (r_288 == r_296)) && (decide (r_310 = r_318))) && (decide (r_0_151 = r_0_173))) && (r_1_152 == r_1_174)) && r_348)) :: (66, fun v _ => v = .bool ((((((((((r_201 == r_205) && (r_214 == r_220)) && (decide (r_232 = r_238))) && (decide (r_250 = r_256))) && (decide (r_268 = r_274))) && (r_288 == r_296)) && (decide (r_310 = r_318))) && (decide (r_0_151 = r_0_173))) && (r_1_152 == r_1_174)) && r_348)) :: (67, fun v _ => v = cV (true && (((((((((((r_201 == r_205) && (r_214 == r_220)) && (decide (r_232 = r_238))) && (decide (r_250 = r_256))) && (decide (r_268 = r_274))) && (r_288 == r_296)) && (decide (r_310 = r_318))) && (decide (r_0_151 = r_0_173))) && (r_1_152 == r_1_174)) && r_348) == true)) (.bool r_355)) :: (68, fun v _ => v = .bool (((((((((((r_201 == r_205) && (r_214 == r_220)) && (decide (r_232 = r_238))) && (decide (r_250 = r_256))) && (decide (r_268 = r_274))) && (r_288 == r_296)) && (decide (r_310 = r_318))) && (decide (r_0_151 = r_0_173))) && (r_1_152 == r_1_174)) && r_348) && r_355)) :: (69, fun v _ => v = .bool (((((((((((r_201 == r_205) && (r_214 == r_220)) && (decide (r_232 = r_238))) && (decide (r_250 = r_256))) && (decide (r_268 = r_274))) && (r_288 == r_296)) && (decide (r_310 = r_318))) && (decide (r_0_151 = r_0_173))) && (r_1_152 == r_1_174)) && r_348) && r_355)) :: [])) hA191 (by kernel_rfl) ⟨fun _ _ _ _ h => by first | exact h | (change _ = _ at h; change _ = _; exact h), fun _ _ _ _ h => by first | exact h | (change _ = _ at h; change _ = _; exact h), fun _ _ _ _ h => by first | exact h | (change _ = _ at h; change _ = _; exact h), fun _ _ _ _ h => by first | exact h | (change _ = _ at h; change _ = _; exact h), fun _ _ _ _ h => by first | exact h | (change _ = _ at h; change _ = _; exact h), fun _ _ _ _ h => by first | exact h | (change _ = _ at h; change _ = _; exact h), fun _ _ _ _ h => by first | exact h | (change _ = _ at h; change _ = _; exact h), fun _ _ _ _ h => by first | exact h | (change _ = _ at h; change _ = _; exact h), fun _ _ _ _ h => by first | exact h | (change _ = _ at h; change _ = _; exact h), fun _ _ _ _ h => by first | exact h | (change _ = _ at h; change _ = _; exact h), fun _ _ _ _ h => by first | exact h | (change _ = _ at h; change _ = _; exact h), fun _ _ _ _ h => by first | exact h | (change _ = _ at h; change _ = _; exact h), fun _ _ _ _ h => by first | exact h | (change _ = _ at h; change _ = _; exact h), fun _ _ _ _ h => by first | exact h | (change _ = _ at h; change _ = _; exact h), fun _ _ _ _ h => by first | exact h | (change _ = _ at h; change _ = _; exact h), fun _ _ _ _ h => by first | exact h | (change _ = _ at h; change _ = _; exact h), fun _ _ _ _ h => by first | exact h | (change _ = _ at h; change _ = _; exact h), fun _ _ _ _ h => by first | exact h | (change _ = _ at h; change _ = _; exact h), fun _ _ _ _ h => by first | exact h | (change _ = _ at h; change _ = _; exact h), fun _ _ _ _ h => by first | exact h | (change _ = _ at h; change _ = _; exact h), fun _ _ _ _ h => by first | exact h | (change _ = _ at h; change _ = _; exact h), fun _ _ _ _ h => by first | exact h | (change _ = _ at h; change _ = _; exact h), fun _ _ _ _ h => by first | exact h | (change _ = _ at h; change _ = _; exact h), fun _ _ _ _ h => by first | exact h | (change _ = _ at h; change _ = _; exact h), fun _ _ _ _ h => by first | exact h | (change _ = _ at h; change _ = _; exact h), fun _ _ _ _ h => by first | exact h | (change _ = _ at h; change _ = _; exact h), fun _ _ _ _ h => by first | exact h | (change _ = _ at h; change _ = _; exact h), fun _ _ _ _ h => by first | exact h | (change _ = _ at h; change _ = _; exact h), fun _ _ _ _ h => by first | exact h | (change _ = _ at h; change _ = _; exact h), fun _ _ _ _ h => by first | exact h | (change _ = _ at h; change _ = _; exact h), fun _ _ _ _ h => by first | exact h | (change _ = _ at h; change _ = _; exact h), fun _ _ _ _ h => by first | exact h | (change _ = _ at h; change _ = _; exact h), fun _ _ _ _ h => by first | exact h | (change _ = _ at h; change _ = _; exact h), fun _ _ _ _ h => by first | exact h | (change _ = _ at h; change _ = _; exact h), fun _ _ _ _ h => by first | exact h | (change _ = _ at h; change _ = _; exact h), fun _ _ _ _ h => by first | exact h | (change _ = _ at h; change _ = _; exact h), fun _ _ _ _ h => by first | exact h | (change _ = _ at h; change _ = _; exact h), fun _ _ _ _ h => by first | exact h | (change _ = _ at h; change _ = _; exact h), fun _ _ _ _ h => by first | exact h | (change _ = _ at h; change _ = _; exact h), fun _ _ _ _ h => by first | exact h | (change _ = _ at h; change _ = _; exact h), fun _ _ _ _ h => by first | exact h | (change _ = _ at h; change _ = _; exact h), fun _ _ _ _ h => by first | exact h | (change _ = _ at h; change _ = _; exact h), fun _ _ _ _ h => by first | exact h | (change _ = _ at h; change _ = _; exact h), fun _ _ _ _ h => by first | exact h | (change _ = _ at h; change _ = _; exact h), fun _ _ _ _ h => by first | exact h | (change _ = _ at h; change _ = _; exact h), fun _ _ _ _ h => by first | exact h | (change _ = _ at h; change _ = _; exact h), fun _ _ _ _ h => by first | exact h | (change _ = _ at h; change _ = _; exact h), fun _ _ _ _ h => by first | exact h | (change _ = _ at h; change _ = _; exact h), fun _ _ _ _ h => by first | exact h | (change _ = _ at h; change _ = _; exact h), fun _ _ _ _ h => by first | exact h | (change _ = _ at h; change _ = _; exact h), fun _ _ _ _ h => by first | exact h | (change _ = _ at h; change _ = _; exact h), fun _ _ _ _ h => by first | exact h | (change _ = _ at h; change _ = _; exact h), fun _ _ _ _ h => by first | exact h | (change _ = _ at h; change _ = _; exact h), fun _ _ _ _ h => by first | exact h | (change _ = _ at h; change _ = _; exact h), fun _ _ _ _ h => by first | exact h | (change _ = _ at h; change _ = _; exact h), fun _ _ _ _ h => by first | exact h | (change _ = _ at h; change _ = _; exact h), fun _ _ _ _ h => by first | exact h | (change _ = _ at h; change _ = _; exact h), fun _ _ _ _ h => by first | exact h | (change _ = _ at h; change _ = _; exact h), fun _ _ _ _ h => by first | exact h | (change _ = _ at h; change _ = _; exact h), fun _ _ _ _ h => by first | exact h | (change _ = _ at h; change _ = _; exact h), fun _ _ _ _ h => by first | exact h | (change _ = _ at h; change _ = _; exact h), fun _ _ _ _ h => by first | exact h | (change _ = _ at h; change _ = _; exact h), fun _ _ _ _ h => by first | exact h | (change _ = _ at h; change _ = _; exact h), fun _ _ _ _ h => by first | exact h | (change _ = _ at h; change _ = _; exact h), fun _ _ _ _ h => by first | exact h | (change _ = _ at h; change _ = _; exact h), fun _ _ _ _ h => by first | exact h | (change _ = _ at h; change _ = _; exact h), fun _ _ _ _ h => by first | exact h | (change _ = _ at h; change _ = _; exact h), fun _ _ _ _ h => by first | exact h | (change _ = _ at h; change _ = _; exact h), fun _ _ _ _ h => by first | exact h | (change _ = _ at h; change _ = _; exact h), fun _ _ _ _ h => by first | exact h | (change _ = _ at h; change _ = _; exact h), trivial⟩ ⟨?_, ?_, ?_, ?_, ?_, ?_, ?_, ?_, ?_, ?_, ?_, ?_, ?_, ?_, ?_, ?_, ?_, ?_, ?_, ?_, ?_, ?_, ?_, ?_, ?_, ?_, ?_, ?_, ?_, ?_, ?_, ?_, ?_, ?_, ?_, ?_, ?_, ?_, ?_, ?_, ?_, ?_, ?_, ?_, ?_, ?_, ?_, ?_, ?_, ?_, ?_, ?_, ?_, ?_, ?_, ?_, ?_, ?_, ?_, ?_, ?_, ?_, ?_, ?_, ?_, ?_, ?_, ?_, ?_, ?_, trivial⟩ ?_
      · intro a w hT
        have hAp := hT.ag hA191 [(7, .pointer (some ⟨B_90, 0, none⟩))] ⟨rfl, trivial⟩ (by kernel_rfl)
        exact opk_val hAp rfl (r_loadN (cs := [.int .i64 r_79_Kind, .string (Bs r_79_Name), .string (Bs r_79_Text), Sl.v r_79_Attrs, Sl.v r_79_Kids]) Try.underlying26 rfl ti_26 (hAp.get rfl) ((hB196.ext hT.chg).part 0 _ rfl)) fun _ _ e => ⟨_, e, Chg.refl _ _, fun _ => Eq.refl _⟩
      · intro a w hT
        have hAp := hT.ag hA191 [] trivial (by kernel_rfl)
        have e200 : a.tmps.getD 44 undef = .agg #[.int .i64 r_79_Kind, .string (Bs r_79_Name), .string (Bs r_79_Text), Sl.v r_79_Attrs, Sl.v r_79_Kids] := hT.vals 0 rfl 44 rfl
        have hAp := hAp.add e200
        exact opk_callX hAp rfl (r_call (args := #[.agg #[.int .i64 r_79_Kind, .string (Bs r_79_Name), .string (Bs r_79_Text), Sl.v r_79_Attrs, Sl.v r_79_Kids]]) Try.func12 (by decide) rfl (map_arr (ml_cons (hAp.get rfl) ml_nil)) rfl) (hc202 w hT.chg) fun _ _ _ _ e hR => ⟨_, e, hR.1, fun _ => hR.2⟩
      · intro a w hT
        have hAp := hT.ag hA191 [(3, .pointer (some ⟨B_4, 0, none⟩))] ⟨rfl, trivial⟩ (by kernel_rfl)
        exact opk_val hAp rfl (r_loadN (cs := [.int .i64 a_1_Kind, .string (Bs a_1_Name), .string (Bs a_1_Text), Sl.v a_1_Attrs, Sl.v a_1_Kids]) Try.underlying26 rfl ti_26 (hAp.get rfl) ((hB194.ext hT.chg).part 0 _ rfl)) fun _ _ e => ⟨_, e, Chg.refl _ _, fun _ => Eq.refl _⟩
      · intro a w hT
        have hAp := hT.ag hA191 [] trivial (by kernel_rfl)
        have e204 : a.tmps.getD 46 undef = .agg #[.int .i64 a_1_Kind, .string (Bs a_1_Name), .string (Bs a_1_Text), Sl.v a_1_Attrs, Sl.v a_1_Kids] := hT.vals 2 rfl 46 rfl
        have hAp := hAp.add e204
        exact opk_callX hAp rfl (r_call (args := #[.agg #[.int .i64 a_1_Kind, .string (Bs a_1_Name), .string (Bs a_1_Text), Sl.v a_1_Attrs, Sl.v a_1_Kids]]) Try.func27 (by decide) rfl (map_arr (ml_cons (hAp.get rfl) ml_nil)) rfl) (hc206 w hT.chg) fun _ _ _ _ e hR => ⟨_, e, hR.1, fun _ => hR.2⟩
      · intro a w hT
        have hAp := hT.ag hA191 [] trivial (by kernel_rfl)
        have e208 : a.tmps.getD 45 undef = .bool r_201 := hT.vals 1 rfl 45 rfl
        have hAp := hAp.add e208
        have e209 : a.tmps.getD 47 undef = .bool r_205 := hT.vals 3 rfl 47 rfl
        have hAp := hAp.add e209
        exact opk_val hAp rfl (r_beql (hAp.get rfl) (hAp.get rfl) Try.underlying4) fun _ _ e => ⟨_, e, Chg.refl _ _, fun _ => Eq.refl _⟩
      · intro a w hT
        have hAp := hT.ag hA191 [] trivial (by kernel_rfl)
        have e210 : a.tmps.getD 48 undef = .bool (r_201 == r_205) := hT.vals 4 rfl 48 rfl
        have hAp := hAp.add e210
        exact opk_val hAp rfl (r_move (hAp.get rfl)) fun _ _ e => ⟨_, e, Chg.refl _ _, fun _ => Eq.refl _⟩
      · intro a w hT
        have hAp := hT.ag hA191 [(2, .string (Bs name_3))] ⟨rfl, trivial⟩ (by kernel_rfl)
        have e211 : a.tmps.getD 49 undef = .bool (r_201 == r_205) := hT.vals 5 rfl 49 rfl
        have hAp := hAp.add e211
        exact opk_gval hAp rfl rfl (g := true) (e := (r_201 == r_205)) rfl (fun hg => r_move (hAp.get rfl)) fun _ _ e => ⟨_, e, Chg.refl _ _, fun _ => Eq.refl _⟩
      · intro a w hT
        have hAp := hT.ag hA191 [] trivial (by kernel_rfl)
        have e212 : a.tmps.getD 49 undef = .bool (r_201 == r_205) := hT.vals 5 rfl 49 rfl
        have hAp := hAp.add e212
        have e213 : a.tmps.getD 50 undef = cV (true && ((r_201 == r_205) == true)) (.string (Bs name_3)) := hT.vals 6 rfl 50 rfl
        have hAp := hAp.add e213
        exact opk_gcall hAp rfl rfl (g := true) (e := (r_201 == r_205)) rfl (fun hg => r_call (args := #[.string (Bs name_3)]) Try.func19 (by decide) rfl (map_arr (ml_cons (cv_get (hAp.get rfl) hg) ml_nil)) rfl) (fun hg => hc215 (g_t hg) w hT.chg) fun _ _ _ e hE => ⟨_, e, hE, fun _ => Eq.refl _⟩
      · intro a w hT
        have hAp := hT.ag hA191 [(2, .string (Bs name_3))] ⟨rfl, trivial⟩ (by kernel_rfl)
        have e217 : a.tmps.getD 49 undef = .bool (r_201 == r_205) := hT.vals 5 rfl 49 rfl
        have hAp := hAp.add e217
        exact opk_gval hAp rfl rfl (g := true) (e := (r_201 == r_205)) rfl (fun hg => r_move (hAp.get rfl)) fun _ _ e => ⟨_, e, Chg.refl _ _, fun _ => Eq.refl _⟩
      · intro a w hT
        have hAp := hT.ag hA191 [] trivial (by kernel_rfl)
        have e218 : a.tmps.getD 49 undef = .bool (r_201 == r_205) := hT.vals 5 rfl 49 rfl
        have hAp := hAp.add e218
        have e219 : a.tmps.getD 52 undef = cV (true && ((r_201 == r_205) == true)) (.string (Bs name_3)) := hT.vals 8 rfl 52 rfl
        have hAp := hAp.add e219
        exact opk_gcall hAp rfl rfl (g := true) (e := (r_201 == r_205)) rfl (fun hg => r_call (args := #[.string (Bs name_3)]) Try.func28 (by decide) rfl (map_arr (ml_cons (cv_get (hAp.get rfl) hg) ml_nil)) rfl) (fun hg => hc221 (g_t hg) w hT.chg) fun _ _ _ e hE => ⟨_, e, hE, fun _ => Eq.refl _⟩
      · intro a w hT
        have hAp := hT.ag hA191 [] trivial (by kernel_rfl)
        have e223 : a.tmps.getD 49 undef = .bool (r_201 == r_205) := hT.vals 5 rfl 49 rfl
        have hAp := hAp.add e223
        have e224 : a.tmps.getD 51 undef = cV (true && ((r_201 == r_205) == true)) (.bool r_214) := hT.vals 7 rfl 51 rfl
        have hAp := hAp.add e224
        have e225 : a.tmps.getD 53 undef = cV (true && ((r_201 == r_205) == true)) (.bool r_220) := hT.vals 9 rfl 53 rfl
        have hAp := hAp.add e225
        exact opk_gval hAp rfl rfl (g := true) (e := (r_201 == r_205)) rfl (fun hg => r_beql (cv_get (hAp.get rfl) hg) (cv_get (hAp.get rfl) hg) Try.underlying4) fun _ _ e => ⟨_, e, Chg.refl _ _, fun _ => Eq.refl _⟩
      · intro a w hT
        have hAp := hT.ag hA191 [] trivial (by kernel_rfl)
        have e226 : a.tmps.getD 49 undef = .bool (r_201 == r_205) := hT.vals 5 rfl 49 rfl
        have hAp := hAp.add e226
        have e227 : a.tmps.getD 54 undef = cV (true && ((r_201 == r_205) == true)) (.bool (r_214 == r_220)) := hT.vals 10 rfl 54 rfl
        have hAp := hAp.add e227
        exact opk_val hAp rfl (r_pick_and (g := (true && ((r_201 == r_205) == true))) (hAp.get rfl) (hAp.get rfl) (fun he => g_mkt rfl he)) fun _ _ e => ⟨_, e, Chg.refl _ _, fun _ => Eq.refl _⟩
      · intro a w hT
        have hAp := hT.ag hA191 [] trivial (by kernel_rfl)
        have e228 : a.tmps.getD 55 undef = .bool ((r_201 == r_205) && (r_214 == r_220)) := hT.vals 11 rfl 55 rfl
        have hAp := hAp.add e228
        exact opk_val hAp rfl (r_move (hAp.get rfl)) fun _ _ e => ⟨_, e, Chg.refl _ _, fun _ => Eq.refl _⟩
      · intro a w hT
        have hAp := hT.ag hA191 [(7, .pointer (some ⟨B_90, 0, none⟩))] ⟨rfl, trivial⟩ (by kernel_rfl)
        have e229 : a.tmps.getD 56 undef = .bool ((r_201 == r_205) && (r_214 == r_220)) := hT.vals 12 rfl 56 rfl
        have hAp := hAp.add e229
        exact opk_gval hAp rfl rfl (g := true) (e := ((r_201 == r_205) && (r_214 == r_220))) rfl (fun hg => r_loadN (cs := [.int .i64 r_79_Kind, .string (Bs r_79_Name), .string (Bs r_79_Text), Sl.v r_79_Attrs, Sl.v r_79_Kids]) Try.underlying26 rfl ti_26 (hAp.get rfl) ((hB196.ext hT.chg).part 0 _ rfl)) fun _ _ e => ⟨_, e, Chg.refl _ _, fun _ => Eq.refl _⟩
      · intro a w hT
        have hAp := hT.ag hA191 [] trivial (by kernel_rfl)
        have e230 : a.tmps.getD 56 undef = .bool ((r_201 == r_205) && (r_214 == r_220)) := hT.vals 12 rfl 56 rfl
        have hAp := hAp.add e230
        have e231 : a.tmps.getD 57 undef = cV (true && (((r_201 == r_205) && (r_214 == r_220)) == true)) (.agg #[.int .i64 r_79_Kind, .string (Bs r_79_Name), .string (Bs r_79_Text), Sl.v r_79_Attrs, Sl.v r_79_Kids]) := hT.vals 13 rfl 57 rfl
        have hAp := hAp.add e231
        exact opk_gcall hAp rfl rfl (g := true) (e := ((r_201 == r_205) && (r_214 == r_220))) rfl (fun hg => r_call (args := #[.agg #[.int .i64 r_79_Kind, .string (Bs r_79_Name), .string (Bs r_79_Text), Sl.v r_79_Attrs, Sl.v r_79_Kids]]) Try.func21 (by decide) rfl (map_arr (ml_cons (cv_get (hAp.get rfl) hg) ml_nil)) rfl) (fun hg => hc233 ⟨(b_and_t (g_t hg)).1, (b_and_t (g_t hg)).2⟩ w hT.chg) fun _ _ _ e hE => ⟨_, e, hE, fun _ => Eq.refl _⟩
      · intro a w hT
        have hAp := hT.ag hA191 [(3, .pointer (some ⟨B_4, 0, none⟩))] ⟨rfl, trivial⟩ (by kernel_rfl)
        have e235 : a.tmps.getD 56 undef = .bool ((r_201 == r_205) && (r_214 == r_220)) := hT.vals 12 rfl 56 rfl
        have hAp := hAp.add e235
        exact opk_gval hAp rfl rfl (g := true) (e := ((r_201 == r_205) && (r_214 == r_220))) rfl (fun hg => r_loadN (cs := [.int .i64 a_1_Kind, .string (Bs a_1_Name), .string (Bs a_1_Text), Sl.v a_1_Attrs, Sl.v a_1_Kids]) Try.underlying26 rfl ti_26 (hAp.get rfl) ((hB194.ext hT.chg).part 0 _ rfl)) fun _ _ e => ⟨_, e, Chg.refl _ _, fun _ => Eq.refl _⟩
      · intro a w hT
        have hAp := hT.ag hA191 [] trivial (by kernel_rfl)
        have e236 : a.tmps.getD 56 undef = .bool ((r_201 == r_205) && (r_214 == r_220)) := hT.vals 12 rfl 56 rfl
        have hAp := hAp.add e236
        have e237 : a.tmps.getD 59 undef = cV (true && (((r_201 == r_205) && (r_214 == r_220)) == true)) (.agg #[.int .i64 a_1_Kind, .string (Bs a_1_Name), .string (Bs a_1_Text), Sl.v a_1_Attrs, Sl.v a_1_Kids]) := hT.vals 15 rfl 59 rfl
        have hAp := hAp.add e237
        exact opk_gcall hAp rfl rfl (g := true) (e := ((r_201 == r_205) && (r_214 == r_220))) rfl (fun hg => r_call (args := #[.agg #[.int .i64 a_1_Kind, .string (Bs a_1_Name), .string (Bs a_1_Text), Sl.v a_1_Attrs, Sl.v a_1_Kids]]) Try.func29 (by decide) rfl (map_arr (ml_cons (cv_get (hAp.get rfl) hg) ml_nil)) rfl) (fun hg => hc239 ⟨(b_and_t (g_t hg)).1, (b_and_t (g_t hg)).2⟩ w hT.chg) fun _ _ _ e hE => ⟨_, e, hE, fun _ => Eq.refl _⟩
      · intro a w hT
        have hAp := hT.ag hA191 [] trivial (by kernel_rfl)
        have e241 : a.tmps.getD 56 undef = .bool ((r_201 == r_205) && (r_214 == r_220)) := hT.vals 12 rfl 56 rfl
        have hAp := hAp.add e241
        have e242 : a.tmps.getD 58 undef = cV (true && (((r_201 == r_205) && (r_214 == r_220)) == true)) (.int .i64 r_232) := hT.vals 14 rfl 58 rfl
        have hAp := hAp.add e242
        have e243 : a.tmps.getD 60 undef = cV (true && (((r_201 == r_205) && (r_214 == r_220)) == true)) (.int .i64 r_238) := hT.vals 16 rfl 60 rfl
        have hAp := hAp.add e243
        exact opk_gval hAp rfl rfl (g := true) (e := ((r_201 == r_205) && (r_214 == r_220))) rfl (fun hg => r_eql (cv_get (hAp.get rfl) hg) (cv_get (hAp.get rfl) hg)) fun _ _ e => ⟨_, e, Chg.refl _ _, fun _ => Eq.refl _⟩
      · intro a w hT
        have hAp := hT.ag hA191 [] trivial (by kernel_rfl)
        have e244 : a.tmps.getD 56 undef = .bool ((r_201 == r_205) && (r_214 == r_220)) := hT.vals 12 rfl 56 rfl
        have hAp := hAp.add e244
        have e245 : a.tmps.getD 61 undef = cV (true && (((r_201 == r_205) && (r_214 == r_220)) == true)) (.bool (decide (r_232 = r_238))) := hT.vals 17 rfl 61 rfl
        have hAp := hAp.add e245
        exact opk_val hAp rfl (r_pick_and (g := (true && (((r_201 == r_205) && (r_214 == r_220)) == true))) (hAp.get rfl) (hAp.get rfl) (fun he => g_mkt rfl he)) fun _ _ e => ⟨_, e, Chg.refl _ _, fun _ => Eq.refl _⟩
      · intro a w hT
        have hAp := hT.ag hA191 [] trivial (by kernel_rfl)
        have e246 : a.tmps.getD 62 undef = .bool (((r_201 == r_205) && (r_214 == r_220)) && (decide (r_232 = r_238))) := hT.vals 18 rfl 62 rfl
        have hAp := hAp.add e246
        exact opk_val hAp rfl (r_move (hAp.get rfl)) fun _ _ e => ⟨_, e, Chg.refl _ _, fun _ => Eq.refl _⟩
      · intro a w hT
        have hAp := hT.ag hA191 [(7, .pointer (some ⟨B_90, 0, none⟩))] ⟨rfl, trivial⟩ (by kernel_rfl)
        have e247 : a.tmps.getD 63 undef = .bool (((r_201 == r_205) && (r_214 == r_220)) && (decide (r_232 = r_238))) := hT.vals 19 rfl 63 rfl
        have hAp := hAp.add e247
        exact opk_gval hAp rfl rfl (g := true) (e := (((r_201 == r_205) && (r_214 == r_220)) && (decide (r_232 = r_238)))) rfl (fun hg => r_loadN (cs := [.int .i64 r_79_Kind, .string (Bs r_79_Name), .string (Bs r_79_Text), Sl.v r_79_Attrs, Sl.v r_79_Kids]) Try.underlying26 rfl ti_26 (hAp.get rfl) ((hB196.ext hT.chg).part 0 _ rfl)) fun _ _ e => ⟨_, e, Chg.refl _ _, fun _ => Eq.refl _⟩
      · intro a w hT
        have hAp := hT.ag hA191 [] trivial (by kernel_rfl)
        have e248 : a.tmps.getD 63 undef = .bool (((r_201 == r_205) && (r_214 == r_220)) && (decide (r_232 = r_238))) := hT.vals 19 rfl 63 rfl
        have hAp := hAp.add e248
        have e249 : a.tmps.getD 64 undef = cV (true && ((((r_201 == r_205) && (r_214 == r_220)) && (decide (r_232 = r_238))) == true)) (.agg #[.int .i64 r_79_Kind, .string (Bs r_79_Name), .string (Bs r_79_Text), Sl.v r_79_Attrs, Sl.v r_79_Kids]) := hT.vals 20 rfl 64 rfl
        have hAp := hAp.add e249
        exact opk_gcall hAp rfl rfl (g := true) (e := (((r_201 == r_205) && (r_214 == r_220)) && (decide (r_232 = r_238)))) rfl (fun hg => r_call (args := #[.agg #[.int .i64 r_79_Kind, .string (Bs r_79_Name), .string (Bs r_79_Text), Sl.v r_79_Attrs, Sl.v r_79_Kids]]) Try.func18 (by decide) rfl (map_arr (ml_cons (cv_get (hAp.get rfl) hg) ml_nil)) rfl) (fun hg => hc251 ⟨⟨(b_and_t (b_and_t (g_t hg)).1).1, (b_and_t (b_and_t (g_t hg)).1).2⟩, (of_decide_eq_true (b_and_t (g_t hg)).2)⟩ w hT.chg) fun _ _ _ e hE => ⟨_, e, hE, fun _ => Eq.refl _⟩
      · intro a w hT
        have hAp := hT.ag hA191 [(3, .pointer (some ⟨B_4, 0, none⟩))] ⟨rfl, trivial⟩ (by kernel_rfl)
        have e253 : a.tmps.getD 63 undef = .bool (((r_201 == r_205) && (r_214 == r_220)) && (decide (r_232 = r_238))) := hT.vals 19 rfl 63 rfl
        have hAp := hAp.add e253
        exact opk_gval hAp rfl rfl (g := true) (e := (((r_201 == r_205) && (r_214 == r_220)) && (decide (r_232 = r_238)))) rfl (fun hg => r_loadN (cs := [.int .i64 a_1_Kind, .string (Bs a_1_Name), .string (Bs a_1_Text), Sl.v a_1_Attrs, Sl.v a_1_Kids]) Try.underlying26 rfl ti_26 (hAp.get rfl) ((hB194.ext hT.chg).part 0 _ rfl)) fun _ _ e => ⟨_, e, Chg.refl _ _, fun _ => Eq.refl _⟩
      · intro a w hT
        have hAp := hT.ag hA191 [] trivial (by kernel_rfl)
        have e254 : a.tmps.getD 63 undef = .bool (((r_201 == r_205) && (r_214 == r_220)) && (decide (r_232 = r_238))) := hT.vals 19 rfl 63 rfl
        have hAp := hAp.add e254
        have e255 : a.tmps.getD 66 undef = cV (true && ((((r_201 == r_205) && (r_214 == r_220)) && (decide (r_232 = r_238))) == true)) (.agg #[.int .i64 a_1_Kind, .string (Bs a_1_Name), .string (Bs a_1_Text), Sl.v a_1_Attrs, Sl.v a_1_Kids]) := hT.vals 22 rfl 66 rfl
        have hAp := hAp.add e255
        exact opk_gcall hAp rfl rfl (g := true) (e := (((r_201 == r_205) && (r_214 == r_220)) && (decide (r_232 = r_238)))) rfl (fun hg => r_call (args := #[.agg #[.int .i64 a_1_Kind, .string (Bs a_1_Name), .string (Bs a_1_Text), Sl.v a_1_Attrs, Sl.v a_1_Kids]]) Try.func30 (by decide) rfl (map_arr (ml_cons (cv_get (hAp.get rfl) hg) ml_nil)) rfl) (fun hg => hc257 ⟨⟨(b_and_t (b_and_t (g_t hg)).1).1, (b_and_t (b_and_t (g_t hg)).1).2⟩, (of_decide_eq_true (b_and_t (g_t hg)).2)⟩ w hT.chg) fun _ _ _ e hE => ⟨_, e, hE, fun _ => Eq.refl _⟩
      · intro a w hT
        have hAp := hT.ag hA191 [] trivial (by kernel_rfl)
        have e259 : a.tmps.getD 63 undef = .bool (((r_201 == r_205) && (r_214 == r_220)) && (decide (r_232 = r_238))) := hT.vals 19 rfl 63 rfl
        have hAp := hAp.add e259
        have e260 : a.tmps.getD 65 undef = cV (true && ((((r_201 == r_205) && (r_214 == r_220)) && (decide (r_232 = r_238))) == true)) (.int .i64 r_250) := hT.vals 21 rfl 65 rfl
        have hAp := hAp.add e260
        have e261 : a.tmps.getD 67 undef = cV (true && ((((r_201 == r_205) && (r_214 == r_220)) && (decide (r_232 = r_238))) == true)) (.int .i64 r_256) := hT.vals 23 rfl 67 rfl
        have hAp := hAp.add e261
        exact opk_gval hAp rfl rfl (g := true) (e := (((r_201 == r_205) && (r_214 == r_220)) && (decide (r_232 = r_238)))) rfl (fun hg => r_eql (cv_get (hAp.get rfl) hg) (cv_get (hAp.get rfl) hg)) fun _ _ e => ⟨_, e, Chg.refl _ _, fun _ => Eq.refl _⟩
      · intro a w hT
        have hAp := hT.ag hA191 [] trivial (by kernel_rfl)
        have e262 : a.tmps.getD 63 undef = .bool (((r_201 == r_205) && (r_214 == r_220)) && (decide (r_232 = r_238))) := hT.vals 19 rfl 63 rfl
        have hAp := hAp.add e262
        have e263 : a.tmps.getD 68 undef = cV (true && ((((r_201 == r_205) && (r_214 == r_220)) && (decide (r_232 = r_238))) == true)) (.bool (decide (r_250 = r_256))) := hT.vals 24 rfl 68 rfl
        have hAp := hAp.add e263
        exact opk_val hAp rfl (r_pick_and (g := (true && ((((r_201 == r_205) && (r_214 == r_220)) && (decide (r_232 = r_238))) == true))) (hAp.get rfl) (hAp.get rfl) (fun he => g_mkt rfl he)) fun _ _ e => ⟨_, e, Chg.refl _ _, fun _ => Eq.refl _⟩
      · intro a w hT
        have hAp := hT.ag hA191 [] trivial (by kernel_rfl)
        have e264 : a.tmps.getD 69 undef = .bool ((((r_201 == r_205) && (r_214 == r_220)) && (decide (r_232 = r_238))) && (decide (r_250 = r_256))) := hT.vals 25 rfl 69 rfl
        have hAp := hAp.add e264
        exact opk_val hAp rfl (r_move (hAp.get rfl)) fun _ _ e => ⟨_, e, Chg.refl _ _, fun _ => Eq.refl _⟩
      · intro a w hT
        have hAp := hT.ag hA191 [(7, .pointer (some ⟨B_90, 0, none⟩))] ⟨rfl, trivial⟩ (by kernel_rfl)
        have e265 : a.tmps.getD 70 undef = .bool ((((r_201 == r_205) && (r_214 == r_220)) && (decide (r_232 = r_238))) && (decide (r_250 = r_256))) := hT.vals 26 rfl 70 rfl
        have hAp := hAp.add e265
        exact opk_gval hAp rfl rfl (g := true) (e := ((((r_201 == r_205) && (r_214 == r_220)) && (decide (r_232 = r_238))) && (decide (r_250 = r_256)))) rfl (fun hg => r_loadN (cs := [.int .i64 r_79_Kind, .string (Bs r_79_Name), .string (Bs r_79_Text), Sl.v r_79_Attrs, Sl.v r_79_Kids]) Try.underlying26 rfl ti_26 (hAp.get rfl) ((hB196.ext hT.chg).part 0 _ rfl)) fun _ _ e => ⟨_, e, Chg.refl _ _, fun _ => Eq.refl _⟩
      · intro a w hT
        have hAp := hT.ag hA191 [] trivial (by kernel_rfl)
        have e266 : a.tmps.getD 70 undef = .bool ((((r_201 == r_205) && (r_214 == r_220)) && (decide (r_232 = r_238))) && (decide (r_250 = r_256))) := hT.vals 26 rfl 70 rfl
        have hAp := hAp.add e266
        have e267 : a.tmps.getD 71 undef = cV (true && (((((r_201 == r_205) && (r_214 == r_220)) && (decide (r_232 = r_238))) && (decide (r_250 = r_256))) == true)) (.agg #[.int .i64 r_79_Kind, .string (Bs r_79_Name), .string (Bs r_79_Text), Sl.v r_79_Attrs, Sl.v r_79_Kids]) := hT.vals 27 rfl 71 rfl
        have hAp := hAp.add e267
        exact opk_gcall hAp rfl rfl (g := true) (e := ((((r_201 == r_205) && (r_214 == r_220)) && (decide (r_232 = r_238))) && (decide (r_250 = r_256)))) rfl (fun hg => r_call (args := #[.agg #[.int .i64 r_79_Kind, .string (Bs r_79_Name), .string (Bs r_79_Text), Sl.v r_79_Attrs, Sl.v r_79_Kids]]) Try.func22 (by decide) rfl (map_arr (ml_cons (cv_get (hAp.get rfl) hg) ml_nil)) rfl) (fun hg => hc269 ⟨⟨⟨(b_and_t (b_and_t (b_and_t (g_t hg)).1).1).1, (b_and_t (b_and_t (b_and_t (g_t hg)).1).1).2⟩, (of_decide_eq_true (b_and_t (b_and_t (g_t hg)).1).2)⟩, (of_decide_eq_true (b_and_t (g_t hg)).2)⟩ w hT.chg) fun _ _ _ e hE => ⟨_, e, hE, fun _ => Eq.refl _⟩
      · intro a w hT
        have hAp := hT.ag hA191 [(3, .pointer (some ⟨B_4, 0, none⟩))] ⟨rfl, trivial⟩ (by kernel_rfl)
        have e271 : a.tmps.getD 70 undef = .bool ((((r_201 == r_205) && (r_214 == r_220)) && (decide (r_232 = r_238))) && (decide (r_250 = r_256))) := hT.vals 26 rfl 70 rfl
        have hAp := hAp.add e271
        exact opk_gval hAp rfl rfl (g := true) (e := ((((r_201 == r_205) && (r_214 == r_220)) && (decide (r_232 = r_238))) && (decide (r_250 = r_256)))) rfl (fun hg => r_loadN (cs := [.int .i64 a_1_Kind, .string (Bs a_1_Name), .string (Bs a_1_Text), Sl.v a_1_Attrs, Sl.v a_1_Kids]) Try.underlying26 rfl ti_26 (hAp.get rfl) ((hB194.ext hT.chg).part 0 _ rfl)) fun _ _ e => ⟨_, e, Chg.refl _ _, fun _ => Eq.refl _⟩
      · intro a w hT
        have hAp := hT.ag hA191 [] trivial (by kernel_rfl)
        have e272 : a.tmps.getD 70 undef = .bool ((((r_201 == r_205) && (r_214 == r_220)) && (decide (r_232 = r_238))) && (decide (r_250 = r_256))) := hT.vals 26 rfl 70 rfl
        have hAp := hAp.add e272
        have e273 : a.tmps.getD 73 undef = cV (true && (((((r_201 == r_205) && (r_214 == r_220)) && (decide (r_232 = r_238))) && (decide (r_250 = r_256))) == true)) (.agg #[.int .i64 a_1_Kind, .string (Bs a_1_Name), .string (Bs a_1_Text), Sl.v a_1_Attrs, Sl.v a_1_Kids]) := hT.vals 29 rfl 73 rfl
        have hAp := hAp.add e273
        exact opk_gcall hAp rfl rfl (g := true) (e := ((((r_201 == r_205) && (r_214 == r_220)) && (decide (r_232 = r_238))) && (decide (r_250 = r_256)))) rfl (fun hg => r_call (args := #[.agg #[.int .i64 a_1_Kind, .string (Bs a_1_Name), .string (Bs a_1_Text), Sl.v a_1_Attrs, Sl.v a_1_Kids]]) Try.func31 (by decide) rfl (map_arr (ml_cons (cv_get (hAp.get rfl) hg) ml_nil)) rfl) (fun hg => hc275 ⟨⟨⟨(b_and_t (b_and_t (b_and_t (g_t hg)).1).1).1, (b_and_t (b_and_t (b_and_t (g_t hg)).1).1).2⟩, (of_decide_eq_true (b_and_t (b_and_t (g_t hg)).1).2)⟩, (of_decide_eq_true (b_and_t (g_t hg)).2)⟩ w hT.chg) fun _ _ _ e hE => ⟨_, e, hE, fun _ => Eq.refl _⟩
      · intro a w hT
        have hAp := hT.ag hA191 [] trivial (by kernel_rfl)
        have e277 : a.tmps.getD 70 undef = .bool ((((r_201 == r_205) && (r_214 == r_220)) && (decide (r_232 = r_238))) && (decide (r_250 = r_256))) := hT.vals 26 rfl 70 rfl
        have hAp := hAp.add e277
        have e278 : a.tmps.getD 72 undef = cV (true && (((((r_201 == r_205) && (r_214 == r_220)) && (decide (r_232 = r_238))) && (decide (r_250 = r_256))) == true)) (.int .i64 r_268) := hT.vals 28 rfl 72 rfl
        have hAp := hAp.add e278
        have e279 : a.tmps.getD 74 undef = cV (true && (((((r_201 == r_205) && (r_214 == r_220)) && (decide (r_232 = r_238))) && (decide (r_250 = r_256))) == true)) (.int .i64 r_274) := hT.vals 30 rfl 74 rfl
        have hAp := hAp.add e279
        exact opk_gval hAp rfl rfl (g := true) (e := ((((r_201 == r_205) && (r_214 == r_220)) && (decide (r_232 = r_238))) && (decide (r_250 = r_256)))) rfl (fun hg => r_eql (cv_get (hAp.get rfl) hg) (cv_get (hAp.get rfl) hg)) fun _ _ e => ⟨_, e, Chg.refl _ _, fun _ => Eq.refl _⟩
      · intro a w hT
        have hAp := hT.ag hA191 [] trivial (by kernel_rfl)
        have e280 : a.tmps.getD 70 undef = .bool ((((r_201 == r_205) && (r_214 == r_220)) && (decide (r_232 = r_238))) && (decide (r_250 = r_256))) := hT.vals 26 rfl 70 rfl
        have hAp := hAp.add e280
        have e281 : a.tmps.getD 75 undef = cV (true && (((((r_201 == r_205) && (r_214 == r_220)) && (decide (r_232 = r_238))) && (decide (r_250 = r_256))) == true)) (.bool (decide (r_268 = r_274))) := hT.vals 31 rfl 75 rfl
        have hAp := hAp.add e281
        exact opk_val hAp rfl (r_pick_and (g := (true && (((((r_201 == r_205) && (r_214 == r_220)) && (decide (r_232 = r_238))) && (decide (r_250 = r_256))) == true))) (hAp.get rfl) (hAp.get rfl) (fun he => g_mkt rfl he)) fun _ _ e => ⟨_, e, Chg.refl _ _, fun _ => Eq.refl _⟩
      · intro a w hT
        have hAp := hT.ag hA191 [] trivial (by kernel_rfl)
        have e282 : a.tmps.getD 76 undef = .bool (((((r_201 == r_205) && (r_214 == r_220)) && (decide (r_232 = r_238))) && (decide (r_250 = r_256))) && (decide (r_268 = r_274))) := hT.vals 32 rfl 76 rfl
        have hAp := hAp.add e282
        exact opk_val hAp rfl (r_move (hAp.get rfl)) fun _ _ e => ⟨_, e, Chg.refl _ _, fun _ => Eq.refl _⟩
      · intro a w hT
        have hAp := hT.ag hA191 [(7, .pointer (some ⟨B_90, 0, none⟩))] ⟨rfl, trivial⟩ (by kernel_rfl)
        have e283 : a.tmps.getD 77 undef = .bool (((((r_201 == r_205) && (r_214 == r_220)) && (decide (r_232 = r_238))) && (decide (r_250 = r_256))) && (decide (r_268 = r_274))) := hT.vals 33 rfl 77 rfl
        have hAp := hAp.add e283
        exact opk_gval hAp rfl rfl (g := true) (e := (((((r_201 == r_205) && (r_214 == r_220)) && (decide (r_232 = r_238))) && (decide (r_250 = r_256))) && (decide (r_268 = r_274)))) rfl (fun hg => r_loadN (cs := [.int .i64 r_79_Kind, .string (Bs r_79_Name), .string (Bs r_79_Text), Sl.v r_79_Attrs, Sl.v r_79_Kids]) Try.underlying26 rfl ti_26 (hAp.get rfl) ((hB196.ext hT.chg).part 0 _ rfl)) fun _ _ e => ⟨_, e, Chg.refl _ _, fun _ => Eq.refl _⟩
      · intro a w hT
        have hAp := hT.ag hA191 [(8, .pointer (some ⟨B_95, 0, none⟩))] ⟨rfl, trivial⟩ (by kernel_rfl)
        have e284 : a.tmps.getD 77 undef = .bool (((((r_201 == r_205) && (r_214 == r_220)) && (decide (r_232 = r_238))) && (decide (r_250 = r_256))) && (decide (r_268 = r_274))) := hT.vals 33 rfl 77 rfl
        have hAp := hAp.add e284
        exact opk_gval hAp rfl rfl (g := true) (e := (((((r_201 == r_205) && (r_214 == r_220)) && (decide (r_232 = r_238))) && (decide (r_250 = r_256))) && (decide (r_268 = r_274)))) rfl (fun hg => r_loadN (cs := [.int .i64 r_85_Kind, .string (Bs r_85_Name), .string (Bs r_85_Text), Sl.v r_85_Attrs, Sl.v r_85_Kids]) Try.underlying26 rfl ti_26 (hAp.get rfl) ((hB197.ext hT.chg).part 0 _ rfl)) fun _ _ e => ⟨_, e, Chg.refl _ _, fun _ => Eq.refl _⟩
      · intro a w hT
        have hAp := hT.ag hA191 [] trivial (by kernel_rfl)
        have e285 : a.tmps.getD 77 undef = .bool (((((r_201 == r_205) && (r_214 == r_220)) && (decide (r_232 = r_238))) && (decide (r_250 = r_256))) && (decide (r_268 = r_274))) := hT.vals 33 rfl 77 rfl
        have hAp := hAp.add e285
        have e286 : a.tmps.getD 78 undef = cV (true && ((((((r_201 == r_205) && (r_214 == r_220)) && (decide (r_232 = r_238))) && (decide (r_250 = r_256))) && (decide (r_268 = r_274))) == true)) (.agg #[.int .i64 r_79_Kind, .string (Bs r_79_Name), .string (Bs r_79_Text), Sl.v r_79_Attrs, Sl.v r_79_Kids]) := hT.vals 34 rfl 78 rfl
        have hAp := hAp.add e286
        have e287 : a.tmps.getD 79 undef = cV (true && ((((((r_201 == r_205) && (r_214 == r_220)) && (decide (r_232 = r_238))) && (decide (r_250 = r_256))) && (decide (r_268 = r_274))) == true)) (.agg #[.int .i64 r_85_Kind, .string (Bs r_85_Name), .string (Bs r_85_Text), Sl.v r_85_Attrs, Sl.v r_85_Kids]) := hT.vals 35 rfl 79 rfl
        have hAp := hAp.add e287
        exact opk_gcall hAp rfl rfl (g := true) (e := (((((r_201 == r_205) && (r_214 == r_220)) && (decide (r_232 = r_238))) && (decide (r_250 = r_256))) && (decide (r_268 = r_274)))) rfl (fun hg => r_call (args := #[.agg #[.int .i64 r_79_Kind, .string (Bs r_79_Name), .string (Bs r_79_Text), Sl.v r_79_Attrs, Sl.v r_79_Kids], .agg #[.int .i64 r_85_Kind, .string (Bs r_85_Name), .string (Bs r_85_Text), Sl.v r_85_Attrs, Sl.v r_85_Kids]]) Try.func25 (by decide) rfl (map_arr (ml_cons (cv_get (hAp.get rfl) hg) (ml_cons (cv_get (hAp.get rfl) hg) ml_nil))) rfl) (fun hg => hc289 ⟨⟨⟨⟨(b_and_t (b_and_t (b_and_t (b_and_t (g_t hg)).1).1).1).1, (b_and_t (b_and_t (b_and_t (b_and_t (g_t hg)).1).1).1).2⟩, (of_decide_eq_true (b_and_t (b_and_t (b_and_t (g_t hg)).1).1).2)⟩, (of_decide_eq_true (b_and_t (b_and_t (g_t hg)).1).2)⟩, (of_decide_eq_true (b_and_t (g_t hg)).2)⟩ w hT.chg) fun _ _ _ e hE => ⟨_, e, hE, fun _ => Eq.refl _⟩
      · intro a w hT
        have hAp := hT.ag hA191 [(3, .pointer (some ⟨B_4, 0, none⟩))] ⟨rfl, trivial⟩ (by kernel_rfl)
        have e291 : a.tmps.getD 77 undef = .bool (((((r_201 == r_205) && (r_214 == r_220)) && (decide (r_232 = r_238))) && (decide (r_250 = r_256))) && (decide (r_268 = r_274))) := hT.vals 33 rfl 77 rfl
        have hAp := hAp.add e291
        exact opk_gval hAp rfl rfl (g := true) (e := (((((r_201 == r_205) && (r_214 == r_220)) && (decide (r_232 = r_238))) && (decide (r_250 = r_256))) && (decide (r_268 = r_274)))) rfl (fun hg => r_loadN (cs := [.int .i64 a_1_Kind, .string (Bs a_1_Name), .string (Bs a_1_Text), Sl.v a_1_Attrs, Sl.v a_1_Kids]) Try.underlying26 rfl ti_26 (hAp.get rfl) ((hB194.ext hT.chg).part 0 _ rfl)) fun _ _ e => ⟨_, e, Chg.refl _ _, fun _ => Eq.refl _⟩
      · intro a w hT
        have hAp := hT.ag hA191 [(4, .pointer (some ⟨B_12, 0, none⟩))] ⟨rfl, trivial⟩ (by kernel_rfl)
        have e292 : a.tmps.getD 77 undef = .bool (((((r_201 == r_205) && (r_214 == r_220)) && (decide (r_232 = r_238))) && (decide (r_250 = r_256))) && (decide (r_268 = r_274))) := hT.vals 33 rfl 77 rfl
        have hAp := hAp.add e292
        exact opk_gval hAp rfl rfl (g := true) (e := (((((r_201 == r_205) && (r_214 == r_220)) && (decide (r_232 = r_238))) && (decide (r_250 = r_256))) && (decide (r_268 = r_274)))) rfl (fun hg => r_loadN (cs := [.int .i64 b_2_Kind, .string (Bs b_2_Name), .string (Bs b_2_Text), Sl.v b_2_Attrs, Sl.v b_2_Kids]) Try.underlying26 rfl ti_26 (hAp.get rfl) ((hB195.ext hT.chg).part 0 _ rfl)) fun _ _ e => ⟨_, e, Chg.refl _ _, fun _ => Eq.refl _⟩
      · intro a w hT
        have hAp := hT.ag hA191 [] trivial (by kernel_rfl)
        have e293 : a.tmps.getD 77 undef = .bool (((((r_201 == r_205) && (r_214 == r_220)) && (decide (r_232 = r_238))) && (decide (r_250 = r_256))) && (decide (r_268 = r_274))) := hT.vals 33 rfl 77 rfl
        have hAp := hAp.add e293
        have e294 : a.tmps.getD 81 undef = cV (true && ((((((r_201 == r_205) && (r_214 == r_220)) && (decide (r_232 = r_238))) && (decide (r_250 = r_256))) && (decide (r_268 = r_274))) == true)) (.agg #[.int .i64 a_1_Kind, .string (Bs a_1_Name), .string (Bs a_1_Text), Sl.v a_1_Attrs, Sl.v a_1_Kids]) := hT.vals 37 rfl 81 rfl
        have hAp := hAp.add e294
        have e295 : a.tmps.getD 82 undef = cV (true && ((((((r_201 == r_205) && (r_214 == r_220)) && (decide (r_232 = r_238))) && (decide (r_250 = r_256))) && (decide (r_268 = r_274))) == true)) (.agg #[.int .i64 b_2_Kind, .string (Bs b_2_Name), .string (Bs b_2_Text), Sl.v b_2_Attrs, Sl.v b_2_Kids]) := hT.vals 38 rfl 82 rfl
        have hAp := hAp.add e295
        exact opk_gcall hAp rfl rfl (g := true) (e := (((((r_201 == r_205) && (r_214 == r_220)) && (decide (r_232 = r_238))) && (decide (r_250 = r_256))) && (decide (r_268 = r_274)))) rfl (fun hg => r_call (args := #[.agg #[.int .i64 a_1_Kind, .string (Bs a_1_Name), .string (Bs a_1_Text), Sl.v a_1_Attrs, Sl.v a_1_Kids], .agg #[.int .i64 b_2_Kind, .string (Bs b_2_Name), .string (Bs b_2_Text), Sl.v b_2_Attrs, Sl.v b_2_Kids]]) Try.func32 (by decide) rfl (map_arr (ml_cons (cv_get (hAp.get rfl) hg) (ml_cons (cv_get (hAp.get rfl) hg) ml_nil))) rfl) (fun hg => hc297 ⟨⟨⟨⟨(b_and_t (b_and_t (b_and_t (b_and_t (g_t hg)).1).1).1).1, (b_and_t (b_and_t (b_and_t (b_and_t (g_t hg)).1).1).1).2⟩, (of_decide_eq_true (b_and_t (b_and_t (b_and_t (g_t hg)).1).1).2)⟩, (of_decide_eq_true (b_and_t (b_and_t (g_t hg)).1).2)⟩, (of_decide_eq_true (b_and_t (g_t hg)).2)⟩ w hT.chg) fun _ _ _ e hE => ⟨_, e, hE, fun _ => Eq.refl _⟩
      · intro a w hT
        have hAp := hT.ag hA191 [] trivial (by kernel_rfl)
        have e299 : a.tmps.getD 77 undef = .bool (((((r_201 == r_205) && (r_214 == r_220)) && (decide (r_232 = r_238))) && (decide (r_250 = r_256))) && (decide (r_268 = r_274))) := hT.vals 33 rfl 77 rfl
        have hAp := hAp.add e299
        have e300 : a.tmps.getD 80 undef = cV (true && ((((((r_201 == r_205) && (r_214 == r_220)) && (decide (r_232 = r_238))) && (decide (r_250 = r_256))) && (decide (r_268 = r_274))) == true)) (.bool r_288) := hT.vals 36 rfl 80 rfl
        have hAp := hAp.add e300
        have e301 : a.tmps.getD 83 undef = cV (true && ((((((r_201 == r_205) && (r_214 == r_220)) && (decide (r_232 = r_238))) && (decide (r_250 = r_256))) && (decide (r_268 = r_274))) == true)) (.bool r_296) := hT.vals 39 rfl 83 rfl
        have hAp := hAp.add e301
        exact opk_gval hAp rfl rfl (g := true) (e := (((((r_201 == r_205) && (r_214 == r_220)) && (decide (r_232 = r_238))) && (decide (r_250 = r_256))) && (decide (r_268 = r_274)))) rfl (fun hg => r_beql (cv_get (hAp.get rfl) hg) (cv_get (hAp.get rfl) hg) Try.underlying4) fun _ _ e => ⟨_, e, Chg.refl _ _, fun _ => Eq.refl _⟩
      · intro a w hT
        have hAp := hT.ag hA191 [] trivial (by kernel_rfl)
        have e302 : a.tmps.getD 77 undef = .bool (((((r_201 == r_205) && (r_214 == r_220)) && (decide (r_232 = r_238))) && (decide (r_250 = r_256))) && (decide (r_268 = r_274))) := hT.vals 33 rfl 77 rfl
        have hAp := hAp.add e302
        have e303 : a.tmps.getD 84 undef = cV (true && ((((((r_201 == r_205) && (r_214 == r_220)) && (decide (r_232 = r_238))) && (decide (r_250 = r_256))) && (decide (r_268 = r_274))) == true)) (.bool (r_288 == r_296)) := hT.vals 40 rfl 84 rfl
        have hAp := hAp.add e303
        exact opk_val hAp rfl (r_pick_and (g := (true && ((((((r_201 == r_205) && (r_214 == r_220)) && (decide (r_232 = r_238))) && (decide (r_250 = r_256))) && (decide (r_268 = r_274))) == true))) (hAp.get rfl) (hAp.get rfl) (fun he => g_mkt rfl he)) fun _ _ e => ⟨_, e, Chg.refl _ _, fun _ => Eq.refl _⟩
      · intro a w hT
        have hAp := hT.ag hA191 [] trivial (by kernel_rfl)
        have e304 : a.tmps.getD 85 undef = .bool ((((((r_201 == r_205) && (r_214 == r_220)) && (decide (r_232 = r_238))) && (decide (r_250 = r_256))) && (decide (r_268 = r_274))) && (r_288 == r_296)) := hT.vals 41 rfl 85 rfl
        have hAp := hAp.add e304
        exact opk_val hAp rfl (r_move (hAp.get rfl)) fun _ _ e => ⟨_, e, Chg.refl _ _, fun _ => Eq.refl _⟩
      · intro a w hT
        have hAp := hT.ag hA191 [(7, .pointer (some ⟨B_90, 0, none⟩))] ⟨rfl, trivial⟩ (by kernel_rfl)
        have e305 : a.tmps.getD 86 undef = .bool ((((((r_201 == r_205) && (r_214 == r_220)) && (decide (r_232 = r_238))) && (decide (r_250 = r_256))) && (decide (r_268 = r_274))) && (r_288 == r_296)) := hT.vals 42 rfl 86 rfl
        have hAp := hAp.add e305
        exact opk_gval hAp rfl rfl (g := true) (e := ((((((r_201 == r_205) && (r_214 == r_220)) && (decide (r_232 = r_238))) && (decide (r_250 = r_256))) && (decide (r_268 = r_274))) && (r_288 == r_296))) rfl (fun hg => r_loadN (cs := [.int .i64 r_79_Kind, .string (Bs r_79_Name), .string (Bs r_79_Text), Sl.v r_79_Attrs, Sl.v r_79_Kids]) Try.underlying26 rfl ti_26 (hAp.get rfl) ((hB196.ext hT.chg).part 0 _ rfl)) fun _ _ e => ⟨_, e, Chg.refl _ _, fun _ => Eq.refl _⟩
      · intro a w hT
        have hAp := hT.ag hA191 [(8, .pointer (some ⟨B_95, 0, none⟩))] ⟨rfl, trivial⟩ (by kernel_rfl)
        have e306 : a.tmps.getD 86 undef = .bool ((((((r_201 == r_205) && (r_214 == r_220)) && (decide (r_232 = r_238))) && (decide (r_250 = r_256))) && (decide (r_268 = r_274))) && (r_288 == r_296)) := hT.vals 42 rfl 86 rfl
        have hAp := hAp.add e306
        exact opk_gval hAp rfl rfl (g := true) (e := ((((((r_201 == r_205) && (r_214 == r_220)) && (decide (r_232 = r_238))) && (decide (r_250 = r_256))) && (decide (r_268 = r_274))) && (r_288 == r_296))) rfl (fun hg => r_loadN (cs := [.int .i64 r_85_Kind, .string (Bs r_85_Name), .string (Bs r_85_Text), Sl.v r_85_Attrs, Sl.v r_85_Kids]) Try.underlying26 rfl ti_26 (hAp.get rfl) ((hB197.ext hT.chg).part 0 _ rfl)) fun _ _ e => ⟨_, e, Chg.refl _ _, fun _ => Eq.refl _⟩
      · intro a w hT
        have hAp := hT.ag hA191 [] trivial (by kernel_rfl)
        have e307 : a.tmps.getD 86 undef = .bool ((((((r_201 == r_205) && (r_214 == r_220)) && (decide (r_232 = r_238))) && (decide (r_250 = r_256))) && (decide (r_268 = r_274))) && (r_288 == r_296)) := hT.vals 42 rfl 86 rfl
        have hAp := hAp.add e307
        have e308 : a.tmps.getD 87 undef = cV (true && (((((((r_201 == r_205) && (r_214 == r_220)) && (decide (r_232 = r_238))) && (decide (r_250 = r_256))) && (decide (r_268 = r_274))) && (r_288 == r_296)) == true)) (.agg #[.int .i64 r_79_Kind, .string (Bs r_79_Name), .string (Bs r_79_Text), Sl.v r_79_Attrs, Sl.v r_79_Kids]) := hT.vals 43 rfl 87 rfl
        have hAp := hAp.add e308
        have e309 : a.tmps.getD 88 undef = cV (true && (((((((r_201 == r_205) && (r_214 == r_220)) && (decide (r_232 = r_238))) && (decide (r_250 = r_256))) && (decide (r_268 = r_274))) && (r_288 == r_296)) == true)) (.agg #[.int .i64 r_85_Kind, .string (Bs r_85_Name), .string (Bs r_85_Text), Sl.v r_85_Attrs, Sl.v r_85_Kids]) := hT.vals 44 rfl 88 rfl
        have hAp := hAp.add e309
        exact opk_gcall hAp rfl rfl (g := true) (e := ((((((r_201 == r_205) && (r_214 == r_220)) && (decide (r_232 = r_238))) && (decide (r_250 = r_256))) && (decide (r_268 = r_274))) && (r_288 == r_296))) rfl (fun hg => r_call (args := #[.agg #[.int .i64 r_79_Kind, .string (Bs r_79_Name), .string (Bs r_79_Text), Sl.v r_79_Attrs, Sl.v r_79_Kids], .agg #[.int .i64 r_85_Kind, .string (Bs r_85_Name), .string (Bs r_85_Text), Sl.v r_85_Attrs, Sl.v r_85_Kids]]) Try.func24 (by decide) rfl (map_arr (ml_cons (cv_get (hAp.get rfl) hg) (ml_cons (cv_get (hAp.get rfl) hg) ml_nil))) rfl) (fun hg => hc311 ⟨⟨⟨⟨⟨(b_and_t (b_and_t (b_and_t (b_and_t (b_and_t (g_t hg)).1).1).1).1).1, (b_and_t (b_and_t (b_and_t (b_and_t (b_and_t (g_t hg)).1).1).1).1).2⟩, (of_decide_eq_true (b_and_t (b_and_t (b_and_t (b_and_t (g_t hg)).1).1).1).2)⟩, (of_decide_eq_true (b_and_t (b_and_t (b_and_t (g_t hg)).1).1).2)⟩, (of_decide_eq_true (b_and_t (b_and_t (g_t hg)).1).2)⟩, (b_and_t (g_t hg)).2⟩ w hT.chg) fun _ _ _ e hE => ⟨_, e, hE, fun _ => Eq.refl _⟩
      · intro a w hT
        have hAp := hT.ag hA191 [(3, .pointer (some ⟨B_4, 0, none⟩))] ⟨rfl, trivial⟩ (by kernel_rfl)
        have e313 : a.tmps.getD 86 undef = .bool ((((((r_201 == r_205) && (r_214 == r_220)) && (decide (r_232 = r_238))) && (decide (r_250 = r_256))) && (decide (r_268 = r_274))) && (r_288 == r_296)) := hT.vals 42 rfl 86 rfl
        have hAp := hAp.add e313
        exact opk_gval hAp rfl rfl (g := true) (e := ((((((r_201 == r_205) && (r_214 == r_220)) && (decide (r_232 = r_238))) && (decide (r_250 = r_256))) && (decide (r_268 = r_274))) && (r_288 == r_296))) rfl (fun hg => r_loadN (cs := [.int .i64 a_1_Kind, .string (Bs a_1_Name), .string (Bs a_1_Text), Sl.v a_1_Attrs, Sl.v a_1_Kids]) Try.underlying26 rfl ti_26 (hAp.get rfl) ((hB194.ext hT.chg).part 0 _ rfl)) fun _ _ e => ⟨_, e, Chg.refl _ _, fun _ => Eq.refl _⟩
      · intro a w hT
        have hAp := hT.ag hA191 [(4, .pointer (some ⟨B_12, 0, none⟩))] ⟨rfl, trivial⟩ (by kernel_rfl)
        have e314 : a.tmps.getD 86 undef = .bool ((((((r_201 == r_205) && (r_214 == r_220)) && (decide (r_232 = r_238))) && (decide (r_250 = r_256))) && (decide (r_268 = r_274))) && (r_288 == r_296)) := hT.vals 42 rfl 86 rfl
        have hAp := hAp.add e314
        exact opk_gval hAp rfl rfl (g := true) (e := ((((((r_201 == r_205) && (r_214 == r_220)) && (decide (r_232 = r_238))) && (decide (r_250 = r_256))) && (decide (r_268 = r_274))) && (r_288 == r_296))) rfl (fun hg => r_loadN (cs := [.int .i64 b_2_Kind, .string (Bs b_2_Name), .string (Bs b_2_Text), Sl.v b_2_Attrs, Sl.v b_2_Kids]) Try.underlying26 rfl ti_26 (hAp.get rfl) ((hB195.ext hT.chg).part 0 _ rfl)) fun _ _ e => ⟨_, e, Chg.refl _ _, fun _ => Eq.refl _⟩
      · intro a w hT
        have hAp := hT.ag hA191 [] trivial (by kernel_rfl)
        have e315 : a.tmps.getD 86 undef = .bool ((((((r_201 == r_205) && (r_214 == r_220)) && (decide (r_232 = r_238))) && (decide (r_250 = r_256))) && (decide (r_268 = r_274))) && (r_288 == r_296)) := hT.vals 42 rfl 86 rfl
        have hAp := hAp.add e315
        have e316 : a.tmps.getD 90 undef = cV (true && (((((((r_201 == r_205) && (r_214 == r_220)) && (decide (r_232 = r_238))) && (decide (r_250 = r_256))) && (decide (r_268 = r_274))) && (r_288 == r_296)) == true)) (.agg #[.int .i64 a_1_Kind, .string (Bs a_1_Name), .string (Bs a_1_Text), Sl.v a_1_Attrs, Sl.v a_1_Kids]) := hT.vals 46 rfl 90 rfl
        have hAp := hAp.add e316
        have e317 : a.tmps.getD 91 undef = cV (true && (((((((r_201 == r_205) && (r_214 == r_220)) && (decide (r_232 = r_238))) && (decide (r_250 = r_256))) && (decide (r_268 = r_274))) && (r_288 == r_296)) == true)) (.agg #[.int .i64 b_2_Kind, .string (Bs b_2_Name), .string (Bs b_2_Text), Sl.v b_2_Attrs, Sl.v b_2_Kids]) := hT.vals 47 rfl 91 rfl
        have hAp := hAp.add e317
        exact opk_gcall hAp rfl rfl (g := true) (e := ((((((r_201 == r_205) && (r_214 == r_220)) && (decide (r_232 = r_238))) && (decide (r_250 = r_256))) && (decide (r_268 = r_274))) && (r_288 == r_296))) rfl (fun hg => r_call (args := #[.agg #[.int .i64 a_1_Kind, .string (Bs a_1_Name), .string (Bs a_1_Text), Sl.v a_1_Attrs, Sl.v a_1_Kids], .agg #[.int .i64 b_2_Kind, .string (Bs b_2_Name), .string (Bs b_2_Text), Sl.v b_2_Attrs, Sl.v b_2_Kids]]) Try.func33 (by decide) rfl (map_arr (ml_cons (cv_get (hAp.get rfl) hg) (ml_cons (cv_get (hAp.get rfl) hg) ml_nil))) rfl) (fun hg => hc319 ⟨⟨⟨⟨⟨(b_and_t (b_and_t (b_and_t (b_and_t (b_and_t (g_t hg)).1).1).1).1).1, (b_and_t (b_and_t (b_and_t (b_and_t (b_and_t (g_t hg)).1).1).1).1).2⟩, (of_decide_eq_true (b_and_t (b_and_t (b_and_t (b_and_t (g_t hg)).1).1).1).2)⟩, (of_decide_eq_true (b_and_t (b_and_t (b_and_t (g_t hg)).1).1).2)⟩, (of_decide_eq_true (b_and_t (b_and_t (g_t hg)).1).2)⟩, (b_and_t (g_t hg)).2⟩ w hT.chg) fun _ _ _ e hE => ⟨_, e, hE, fun _ => Eq.refl _⟩
      · intro a w hT
        have hAp := hT.ag hA191 [] trivial (by kernel_rfl)
        have e321 : a.tmps.getD 86 undef = .bool ((((((r_201 == r_205) && (r_214 == r_220)) && (decide (r_232 = r_238))) && (decide (r_250 = r_256))) && (decide (r_268 = r_274))) && (r_288 == r_296)) := hT.vals 42 rfl 86 rfl
        have hAp := hAp.add e321
        have e322 : a.tmps.getD 89 undef = cV (true && (((((((r_201 == r_205) && (r_214 == r_220)) && (decide (r_232 = r_238))) && (decide (r_250 = r_256))) && (decide (r_268 = r_274))) && (r_288 == r_296)) == true)) (.int .i64 r_310) := hT.vals 45 rfl 89 rfl
        have hAp := hAp.add e322
        have e323 : a.tmps.getD 92 undef = cV (true && (((((((r_201 == r_205) && (r_214 == r_220)) && (decide (r_232 = r_238))) && (decide (r_250 = r_256))) && (decide (r_268 = r_274))) && (r_288 == r_296)) == true)) (.int .i64 r_318) := hT.vals 48 rfl 92 rfl
        have hAp := hAp.add e323
        exact opk_gval hAp rfl rfl (g := true) (e := ((((((r_201 == r_205) && (r_214 == r_220)) && (decide (r_232 = r_238))) && (decide (r_250 = r_256))) && (decide (r_268 = r_274))) && (r_288 == r_296))) rfl (fun hg => r_eql (cv_get (hAp.get rfl) hg) (cv_get (hAp.get rfl) hg)) fun _ _ e => ⟨_, e, Chg.refl _ _, fun _ => Eq.refl _⟩
      · intro a w hT
        have hAp := hT.ag hA191 [] trivial (by kernel_rfl)
        have e324 : a.tmps.getD 86 undef = .bool ((((((r_201 == r_205) && (r_214 == r_220)) && (decide (r_232 = r_238))) && (decide (r_250 = r_256))) && (decide (r_268 = r_274))) && (r_288 == r_296)) := hT.vals 42 rfl 86 rfl
        have hAp := hAp.add e324
        have e325 : a.tmps.getD 93 undef = cV (true && (((((((r_201 == r_205) && (r_214 == r_220)) && (decide (r_232 = r_238))) && (decide (r_250 = r_256))) && (decide (r_268 = r_274))) && (r_288 == r_296)) == true)) (.bool (decide (r_310 = r_318))) := hT.vals 49 rfl 93 rfl
        have hAp := hAp.add e325
        exact opk_val hAp rfl (r_pick_and (g := (true && (((((((r_201 == r_205) && (r_214 == r_220)) && (decide (r_232 = r_238))) && (decide (r_250 = r_256))) && (decide (r_268 = r_274))) && (r_288 == r_296)) == true))) (hAp.get rfl) (hAp.get rfl) (fun he => g_mkt rfl he)) fun _ _ e => ⟨_, e, Chg.refl _ _, fun _ => Eq.refl _⟩
      · intro a w hT
        have hAp := hT.ag hA191 [] trivial (by kernel_rfl)
        have e326 : a.tmps.getD 94 undef = .bool (((((((r_201 == r_205) && (r_214 == r_220)) && (decide (r_232 = r_238))) && (decide (r_250 = r_256))) && (decide (r_268 = r_274))) && (r_288 == r_296)) && (decide (r_310 = r_318))) := hT.vals 50 rfl 94 rfl
        have hAp := hAp.add e326
        exact opk_val hAp rfl (r_move (hAp.get rfl)) fun _ _ e => ⟨_, e, Chg.refl _ _, fun _ => Eq.refl _⟩
      · intro a w hT
        have hAp := hT.ag hA191 [(9, .string (Bs r_0_151))] ⟨rfl, trivial⟩ (by kernel_rfl)
        have e327 : a.tmps.getD 95 undef = .bool (((((((r_201 == r_205) && (r_214 == r_220)) && (decide (r_232 = r_238))) && (decide (r_250 = r_256))) && (decide (r_268 = r_274))) && (r_288 == r_296)) && (decide (r_310 = r_318))) := hT.vals 51 rfl 95 rfl
        have hAp := hAp.add e327
        exact opk_gval hAp rfl rfl (g := true) (e := (((((((r_201 == r_205) && (r_214 == r_220)) && (decide (r_232 = r_238))) && (decide (r_250 = r_256))) && (decide (r_268 = r_274))) && (r_288 == r_296)) && (decide (r_310 = r_318)))) rfl (fun hg => r_move (hAp.get rfl)) fun _ _ e => ⟨_, e, Chg.refl _ _, fun _ => Eq.refl _⟩
      · intro a w hT
        have hAp := hT.ag hA191 [(11, .string (Bs r_0_173))] ⟨rfl, trivial⟩ (by kernel_rfl)
        have e328 : a.tmps.getD 95 undef = .bool (((((((r_201 == r_205) && (r_214 == r_220)) && (decide (r_232 = r_238))) && (decide (r_250 = r_256))) && (decide (r_268 = r_274))) && (r_288 == r_296)) && (decide (r_310 = r_318))) := hT.vals 51 rfl 95 rfl
        have hAp := hAp.add e328
        exact opk_gval hAp rfl rfl (g := true) (e := (((((((r_201 == r_205) && (r_214 == r_220)) && (decide (r_232 = r_238))) && (decide (r_250 = r_256))) && (decide (r_268 = r_274))) && (r_288 == r_296)) && (decide (r_310 = r_318)))) rfl (fun hg => r_move (hAp.get rfl)) fun _ _ e => ⟨_, e, Chg.refl _ _, fun _ => Eq.refl _⟩
      · intro a w hT
        have hAp := hT.ag hA191 [] trivial (by kernel_rfl)
        have e329 : a.tmps.getD 95 undef = .bool (((((((r_201 == r_205) && (r_214 == r_220)) && (decide (r_232 = r_238))) && (decide (r_250 = r_256))) && (decide (r_268 = r_274))) && (r_288 == r_296)) && (decide (r_310 = r_318))) := hT.vals 51 rfl 95 rfl
        have hAp := hAp.add e329
        have e330 : a.tmps.getD 96 undef = cV (true && ((((((((r_201 == r_205) && (r_214 == r_220)) && (decide (r_232 = r_238))) && (decide (r_250 = r_256))) && (decide (r_268 = r_274))) && (r_288 == r_296)) && (decide (r_310 = r_318))) == true)) (.string (Bs r_0_151)) := hT.vals 52 rfl 96 rfl
        have hAp := hAp.add e330
        have e331 : a.tmps.getD 97 undef = cV (true && ((((((((r_201 == r_205) && (r_214 == r_220)) && (decide (r_232 = r_238))) && (decide (r_250 = r_256))) && (decide (r_268 = r_274))) && (r_288 == r_296)) && (decide (r_310 = r_318))) == true)) (.string (Bs r_0_173)) := hT.vals 53 rfl 97 rfl
        have hAp := hAp.add e331
        exact opk_gval hAp rfl rfl (g := true) (e := (((((((r_201 == r_205) && (r_214 == r_220)) && (decide (r_232 = r_238))) && (decide (r_250 = r_256))) && (decide (r_268 = r_274))) && (r_288 == r_296)) && (decide (r_310 = r_318)))) rfl (fun hg => r_seql (cv_get (hAp.get rfl) hg) (cv_get (hAp.get rfl) hg)) fun _ _ e => ⟨_, e, Chg.refl _ _, fun _ => Eq.refl _⟩
      · intro a w hT
        have hAp := hT.ag hA191 [] trivial (by kernel_rfl)
        have e332 : a.tmps.getD 95 undef = .bool (((((((r_201 == r_205) && (r_214 == r_220)) && (decide (r_232 = r_238))) && (decide (r_250 = r_256))) && (decide (r_268 = r_274))) && (r_288 == r_296)) && (decide (r_310 = r_318))) := hT.vals 51 rfl 95 rfl
        have hAp := hAp.add e332
        have e333 : a.tmps.getD 98 undef = cV (true && ((((((((r_201 == r_205) && (r_214 == r_220)) && (decide (r_232 = r_238))) && (decide (r_250 = r_256))) && (decide (r_268 = r_274))) && (r_288 == r_296)) && (decide (r_310 = r_318))) == true)) (.bool (decide (r_0_151 = r_0_173))) := hT.vals 54 rfl 98 rfl
        have hAp := hAp.add e333
        exact opk_val hAp rfl (r_pick_and (g := (true && ((((((((r_201 == r_205) && (r_214 == r_220)) && (decide (r_232 = r_238))) && (decide (r_250 = r_256))) && (decide (r_268 = r_274))) && (r_288 == r_296)) && (decide (r_310 = r_318))) == true))) (hAp.get rfl) (hAp.get rfl) (fun he => g_mkt rfl he)) fun _ _ e => ⟨_, e, Chg.refl _ _, fun _ => Eq.refl _⟩
      · intro a w hT
        have hAp := hT.ag hA191 [] trivial (by kernel_rfl)
        have e334 : a.tmps.getD 99 undef = .bool ((((((((r_201 == r_205) && (r_214 == r_220)) && (decide (r_232 = r_238))) && (decide (r_250 = r_256))) && (decide (r_268 = r_274))) && (r_288 == r_296)) && (decide (r_310 = r_318))) && (decide (r_0_151 = r_0_173))) := hT.vals 55 rfl 99 rfl
        have hAp := hAp.add e334
        exact opk_val hAp rfl (r_move (hAp.get rfl)) fun _ _ e => ⟨_, e, Chg.refl _ _, fun _ => Eq.refl _⟩
      · intro a w hT
        have hAp := hT.ag hA191 [(10, .bool r_1_152)] ⟨rfl, trivial⟩ (by kernel_rfl)
        have e335 : a.tmps.getD 100 undef = .bool ((((((((r_201 == r_205) && (r_214 == r_220)) && (decide (r_232 = r_238))) && (decide (r_250 = r_256))) && (decide (r_268 = r_274))) && (r_288 == r_296)) && (decide (r_310 = r_318))) && (decide (r_0_151 = r_0_173))) := hT.vals 56 rfl 100 rfl
        have hAp := hAp.add e335
        exact opk_gval hAp rfl rfl (g := true) (e := ((((((((r_201 == r_205) && (r_214 == r_220)) && (decide (r_232 = r_238))) && (decide (r_250 = r_256))) && (decide (r_268 = r_274))) && (r_288 == r_296)) && (decide (r_310 = r_318))) && (decide (r_0_151 = r_0_173)))) rfl (fun hg => r_move (hAp.get rfl)) fun _ _ e => ⟨_, e, Chg.refl _ _, fun _ => Eq.refl _⟩
      · intro a w hT
        have hAp := hT.ag hA191 [(12, .bool r_1_174)] ⟨rfl, trivial⟩ (by kernel_rfl)
        have e336 : a.tmps.getD 100 undef = .bool ((((((((r_201 == r_205) && (r_214 == r_220)) && (decide (r_232 = r_238))) && (decide (r_250 = r_256))) && (decide (r_268 = r_274))) && (r_288 == r_296)) && (decide (r_310 = r_318))) && (decide (r_0_151 = r_0_173))) := hT.vals 56 rfl 100 rfl
        have hAp := hAp.add e336
        exact opk_gval hAp rfl rfl (g := true) (e := ((((((((r_201 == r_205) && (r_214 == r_220)) && (decide (r_232 = r_238))) && (decide (r_250 = r_256))) && (decide (r_268 = r_274))) && (r_288 == r_296)) && (decide (r_310 = r_318))) && (decide (r_0_151 = r_0_173)))) rfl (fun hg => r_move (hAp.get rfl)) fun _ _ e => ⟨_, e, Chg.refl _ _, fun _ => Eq.refl _⟩
      · intro a w hT
        have hAp := hT.ag hA191 [] trivial (by kernel_rfl)
        have e337 : a.tmps.getD 100 undef = .bool ((((((((r_201 == r_205) && (r_214 == r_220)) && (decide (r_232 = r_238))) && (decide (r_250 = r_256))) && (decide (r_268 = r_274))) && (r_288 == r_296)) && (decide (r_310 = r_318))) && (decide (r_0_151 = r_0_173))) := hT.vals 56 rfl 100 rfl
        have hAp := hAp.add e337
        have e338 : a.tmps.getD 101 undef = cV (true && (((((((((r_201 == r_205) && (r_214 == r_220)) && (decide (r_232 = r_238))) && (decide (r_250 = r_256))) && (decide (r_268 = r_274))) && (r_288 == r_296)) && (decide (r_310 = r_318))) && (decide (r_0_151 = r_0_173))) == true)) (.bool r_1_152) := hT.vals 57 rfl 101 rfl
        have hAp := hAp.add e338
        have e339 : a.tmps.getD 102 undef = cV (true && (((((((((r_201 == r_205) && (r_214 == r_220)) && (decide (r_232 = r_238))) && (decide (r_250 = r_256))) && (decide (r_268 = r_274))) && (r_288 == r_296)) && (decide (r_310 = r_318))) && (decide (r_0_151 = r_0_173))) == true)) (.bool r_1_174) := hT.vals 58 rfl 102 rfl
        have hAp := hAp.add e339
        exact opk_gval hAp rfl rfl (g := true) (e := ((((((((r_201 == r_205) && (r_214 == r_220)) && (decide (r_232 = r_238))) && (decide (r_250 = r_256))) && (decide (r_268 = r_274))) && (r_288 == r_296)) && (decide (r_310 = r_318))) && (decide (r_0_151 = r_0_173)))) rfl (fun hg => r_beql (cv_get (hAp.get rfl) hg) (cv_get (hAp.get rfl) hg) Try.underlying4) fun _ _ e => ⟨_, e, Chg.refl _ _, fun _ => Eq.refl _⟩
      · intro a w hT
        have hAp := hT.ag hA191 [] trivial (by kernel_rfl)
        have e340 : a.tmps.getD 100 undef = .bool ((((((((r_201 == r_205) && (r_214 == r_220)) && (decide (r_232 = r_238))) && (decide (r_250 = r_256))) && (decide (r_268 = r_274))) && (r_288 == r_296)) && (decide (r_310 = r_318))) && (decide (r_0_151 = r_0_173))) := hT.vals 56 rfl 100 rfl
        have hAp := hAp.add e340
        have e341 : a.tmps.getD 103 undef = cV (true && (((((((((r_201 == r_205) && (r_214 == r_220)) && (decide (r_232 = r_238))) && (decide (r_250 = r_256))) && (decide (r_268 = r_274))) && (r_288 == r_296)) && (decide (r_310 = r_318))) && (decide (r_0_151 = r_0_173))) == true)) (.bool (r_1_152 == r_1_174)) := hT.vals 59 rfl 103 rfl
        have hAp := hAp.add e341
        exact opk_val hAp rfl (r_pick_and (g := (true && (((((((((r_201 == r_205) && (r_214 == r_220)) && (decide (r_232 = r_238))) && (decide (r_250 = r_256))) && (decide (r_268 = r_274))) && (r_288 == r_296)) && (decide (r_310 = r_318))) && (decide (r_0_151 = r_0_173))) == true))) (hAp.get rfl) (hAp.get rfl) (fun he => g_mkt rfl he)) fun _ _ e => ⟨_, e, Chg.refl _ _, fun _ => Eq.refl _⟩
      · intro a w hT
        have hAp := hT.ag hA191 [] trivial (by kernel_rfl)
        have e342 : a.tmps.getD 104 undef = .bool (((((((((r_201 == r_205) && (r_214 == r_220)) && (decide (r_232 = r_238))) && (decide (r_250 = r_256))) && (decide (r_268 = r_274))) && (r_288 == r_296)) && (decide (r_310 = r_318))) && (decide (r_0_151 = r_0_173))) && (r_1_152 == r_1_174)) := hT.vals 60 rfl 104 rfl
        have hAp := hAp.add e342
        exact opk_val hAp rfl (r_move (hAp.get rfl)) fun _ _ e => ⟨_, e, Chg.refl _ _, fun _ => Eq.refl _⟩
      · intro a w hT
        have hAp := hT.ag hA191 [(7, .pointer (some ⟨B_90, 0, none⟩))] ⟨rfl, trivial⟩ (by kernel_rfl)
        have e343 : a.tmps.getD 105 undef = .bool (((((((((r_201 == r_205) && (r_214 == r_220)) && (decide (r_232 = r_238))) && (decide (r_250 = r_256))) && (decide (r_268 = r_274))) && (r_288 == r_296)) && (decide (r_310 = r_318))) && (decide (r_0_151 = r_0_173))) && (r_1_152 == r_1_174)) := hT.vals 61 rfl 105 rfl
        have hAp := hAp.add e343
        exact opk_gval hAp rfl rfl (g := true) (e := (((((((((r_201 == r_205) && (r_214 == r_220)) && (decide (r_232 = r_238))) && (decide (r_250 = r_256))) && (decide (r_268 = r_274))) && (r_288 == r_296)) && (decide (r_310 = r_318))) && (decide (r_0_151 = r_0_173))) && (r_1_152 == r_1_174))) rfl (fun hg => r_loadN (cs := [.int .i64 r_79_Kind, .string (Bs r_79_Name), .string (Bs r_79_Text), Sl.v r_79_Attrs, Sl.v r_79_Kids]) Try.underlying26 rfl ti_26 (hAp.get rfl) ((hB196.ext hT.chg).part 0 _ rfl)) fun _ _ e => ⟨_, e, Chg.refl _ _, fun _ => Eq.refl _⟩
      · intro a w hT
        have hAp := hT.ag hA191 [(3, .pointer (some ⟨B_4, 0, none⟩))] ⟨rfl, trivial⟩ (by kernel_rfl)
        have e344 : a.tmps.getD 105 undef = .bool (((((((((r_201 == r_205) && (r_214 == r_220)) && (decide (r_232 = r_238))) && (decide (r_250 = r_256))) && (decide (r_268 = r_274))) && (r_288 == r_296)) && (decide (r_310 = r_318))) && (decide (r_0_151 = r_0_173))) && (r_1_152 == r_1_174)) := hT.vals 61 rfl 105 rfl
        have hAp := hAp.add e344
        exact opk_gval hAp rfl rfl (g := true) (e := (((((((((r_201 == r_205) && (r_214 == r_220)) && (decide (r_232 = r_238))) && (decide (r_250 = r_256))) && (decide (r_268 = r_274))) && (r_288 == r_296)) && (decide (r_310 = r_318))) && (decide (r_0_151 = r_0_173))) && (r_1_152 == r_1_174))) rfl (fun hg => r_loadN (cs := [.int .i64 a_1_Kind, .string (Bs a_1_Name), .string (Bs a_1_Text), Sl.v a_1_Attrs, Sl.v a_1_Kids]) Try.underlying26 rfl ti_26 (hAp.get rfl) ((hB194.ext hT.chg).part 0 _ rfl)) fun _ _ e => ⟨_, e, Chg.refl _ _, fun _ => Eq.refl _⟩
      · intro a w hT
        have hAp := hT.ag hA191 [] trivial (by kernel_rfl)
        have e345 : a.tmps.getD 105 undef = .bool (((((((((r_201 == r_205) && (r_214 == r_220)) && (decide (r_232 = r_238))) && (decide (r_250 = r_256))) && (decide (r_268 = r_274))) && (r_288 == r_296)) && (decide (r_310 = r_318))) && (decide (r_0_151 = r_0_173))) && (r_1_152 == r_1_174)) := hT.vals 61 rfl 105 rfl
        have hAp := hAp.add e345
        have e346 : a.tmps.getD 106 undef = cV (true && ((((((((((r_201 == r_205) && (r_214 == r_220)) && (decide (r_232 = r_238))) && (decide (r_250 = r_256))) && (decide (r_268 = r_274))) && (r_288 == r_296)) && (decide (r_310 = r_318))) && (decide (r_0_151 = r_0_173))) && (r_1_152 == r_1_174)) == true)) (.agg #[.int .i64 r_79_Kind, .string (Bs r_79_Name), .string (Bs r_79_Text), Sl.v r_79_Attrs, Sl.v r_79_Kids]) := hT.vals 62 rfl 106 rfl
        have hAp := hAp.add e346
        have e347 : a.tmps.getD 107 undef = cV (true && ((((((((((r_201 == r_205) && (r_214 == r_220)) && (decide (r_232 = r_238))) && (decide (r_250 = r_256))) && (decide (r_268 = r_274))) && (r_288 == r_296)) && (decide (r_310 = r_318))) && (decide (r_0_151 = r_0_173))) && (r_1_152 == r_1_174)) == true)) (.agg #[.int .i64 a_1_Kind, .string (Bs a_1_Name), .string (Bs a_1_Text), Sl.v a_1_Attrs, Sl.v a_1_Kids]) := hT.vals 63 rfl 107 rfl
        have hAp := hAp.add e347
        exact opk_gcall hAp rfl rfl (g := true) (e := (((((((((r_201 == r_205) && (r_214 == r_220)) && (decide (r_232 = r_238))) && (decide (r_250 = r_256))) && (decide (r_268 = r_274))) && (r_288 == r_296)) && (decide (r_310 = r_318))) && (decide (r_0_151 = r_0_173))) && (r_1_152 == r_1_174))) rfl (fun hg => r_call (args := #[.agg #[.int .i64 r_79_Kind, .string (Bs r_79_Name), .string (Bs r_79_Text), Sl.v r_79_Attrs, Sl.v r_79_Kids], .agg #[.int .i64 a_1_Kind, .string (Bs a_1_Name), .string (Bs a_1_Text), Sl.v a_1_Attrs, Sl.v a_1_Kids]]) Try.func32 (by decide) rfl (map_arr (ml_cons (cv_get (hAp.get rfl) hg) (ml_cons (cv_get (hAp.get rfl) hg) ml_nil))) rfl) (fun hg => hc349 ⟨⟨⟨⟨⟨⟨⟨⟨(b_and_t (b_and_t (b_and_t (b_and_t (b_and_t (b_and_t (b_and_t (b_and_t (g_t hg)).1).1).1).1).1).1).1).1, (b_and_t (b_and_t (b_and_t (b_and_t (b_and_t (b_and_t (b_and_t (b_and_t (g_t hg)).1).1).1).1).1).1).1).2⟩, (of_decide_eq_true (b_and_t (b_and_t (b_and_t (b_and_t (b_and_t (b_and_t (b_and_t (g_t hg)).1).1).1).1).1).1).2)⟩, (of_decide_eq_true (b_and_t (b_and_t (b_and_t (b_and_t (b_and_t (b_and_t (g_t hg)).1).1).1).1).1).2)⟩, (of_decide_eq_true (b_and_t (b_and_t (b_and_t (b_and_t (b_and_t (g_t hg)).1).1).1).1).2)⟩, (b_and_t (b_and_t (b_and_t (b_and_t (g_t hg)).1).1).1).2⟩, (of_decide_eq_true (b_and_t (b_and_t (b_and_t (g_t hg)).1).1).2)⟩, (of_decide_eq_true (b_and_t (b_and_t (g_t hg)).1).2)⟩, (b_and_t (g_t hg)).2⟩ w hT.chg) fun _ _ _ e hE => ⟨_, e, hE, fun _ => Eq.refl _⟩
      · intro a w hT
        have hAp := hT.ag hA191 [] trivial (by kernel_rfl)
        have e351 : a.tmps.getD 105 undef = .bool (((((((((r_201 == r_205) && (r_214 == r_220)) && (decide (r_232 = r_238))) && (decide (r_250 = r_256))) && (decide (r_268 = r_274))) && (r_288 == r_296)) && (decide (r_310 = r_318))) && (decide (r_0_151 = r_0_173))) && (r_1_152 == r_1_174)) := hT.vals 61 rfl 105 rfl
        have hAp := hAp.add e351
        have e352 : a.tmps.getD 108 undef = cV (true && ((((((((((r_201 == r_205) && (r_214 == r_220)) && (decide (r_232 = r_238))) && (decide (r_250 = r_256))) && (decide (r_268 = r_274))) && (r_288 == r_296)) && (decide (r_310 = r_318))) && (decide (r_0_151 = r_0_173))) && (r_1_152 == r_1_174)) == true)) (.bool r_348) := hT.vals 64 rfl 108 rfl
        have hAp := hAp.add e352
        exact opk_val hAp rfl (r_pick_and (g := (true && ((((((((((r_201 == r_205) && (r_214 == r_220)) && (decide (r_232 = r_238))) && (decide (r_250 = r_256))) && (decide (r_268 = r_274))) && (r_288 == r_296)) && (decide (r_310 = r_318))) && (decide (r_0_151 = r_0_173))) && (r_1_152 == r_1_174)) == true))) (hAp.get rfl) (hAp.get rfl) (fun he => g_mkt rfl he)) fun _ _ e => ⟨_, e, Chg.refl _ _, fun _ => Eq.refl _⟩
      · intro a w hT
        have hAp := hT.ag hA191 [] trivial (by kernel_rfl)
        have e353 : a.tmps.getD 109 undef = .bool ((((((((((r_201 == r_205) && (r_214 == r_220)) && (decide (r_232 = r_238))) && (decide (r_250 = r_256))) && (decide (r_268 = r_274))) && (r_288 == r_296)) && (decide (r_310 = r_318))) && (decide (r_0_151 = r_0_173))) && (r_1_152 == r_1_174)) && r_348) := hT.vals 65 rfl 109 rfl
        have hAp := hAp.add e353
        exact opk_val hAp rfl (r_move (hAp.get rfl)) fun _ _ e => ⟨_, e, Chg.refl _ _, fun _ => Eq.refl _⟩
      · intro a w hT
        have hAp := hT.ag hA191 [] trivial (by kernel_rfl)
        have e354 : a.tmps.getD 110 undef = .bool ((((((((((r_201 == r_205) && (r_214 == r_220)) && (decide (r_232 = r_238))) && (decide (r_250 = r_256))) && (decide (r_268 = r_274))) && (r_288 == r_296)) && (decide (r_310 = r_318))) && (decide (r_0_151 = r_0_173))) && (r_1_152 == r_1_174)) && r_348) := hT.vals 66 rfl 110 rfl
        have hAp := hAp.add e354
        exact opk_gcall hAp rfl rfl (g := true) (e := ((((((((((r_201 == r_205) && (r_214 == r_220)) && (decide (r_232 = r_238))) && (decide (r_250 = r_256))) && (decide (r_268 = r_274))) && (r_288 == r_296)) && (decide (r_310 = r_318))) && (decide (r_0_151 = r_0_173))) && (r_1_152 == r_1_174)) && r_348)) rfl (fun hg => r_call (args := #[]) Try.func15 (by decide) rfl (map_arr ml_nil) rfl) (fun hg => hc356 ⟨⟨⟨⟨⟨⟨⟨⟨⟨(b_and_t (b_and_t (b_and_t (b_and_t (b_and_t (b_and_t (b_and_t (b_and_t (b_and_t (g_t hg)).1).1).1).1).1).1).1).1).1, (b_and_t (b_and_t (b_and_t (b_and_t (b_and_t (b_and_t (b_and_t (b_and_t (b_and_t (g_t hg)).1).1).1).1).1).1).1).1).2⟩, (of_decide_eq_true (b_and_t (b_and_t (b_and_t (b_and_t (b_and_t (b_and_t (b_and_t (b_and_t (g_t hg)).1).1).1).1).1).1).1).2)⟩, (of_decide_eq_true (b_and_t (b_and_t (b_and_t (b_and_t (b_and_t (b_and_t (b_and_t (g_t hg)).1).1).1).1).1).1).2)⟩, (of_decide_eq_true (b_and_t (b_and_t (b_and_t (b_and_t (b_and_t (b_and_t (g_t hg)).1).1).1).1).1).2)⟩, (b_and_t (b_and_t (b_and_t (b_and_t (b_and_t (g_t hg)).1).1).1).1).2⟩, (of_decide_eq_true (b_and_t (b_and_t (b_and_t (b_and_t (g_t hg)).1).1).1).2)⟩, (of_decide_eq_true (b_and_t (b_and_t (b_and_t (g_t hg)).1).1).2)⟩, (b_and_t (b_and_t (g_t hg)).1).2⟩, (b_and_t (g_t hg)).2⟩ w hT.chg) fun _ _ _ e hE => ⟨_, e, hE, fun _ => Eq.refl _⟩
      · intro a w hT
        have hAp := hT.ag hA191 [] trivial (by kernel_rfl)
        have e358 : a.tmps.getD 110 undef = .bool ((((((((((r_201 == r_205) && (r_214 == r_220)) && (decide (r_232 = r_238))) && (decide (r_250 = r_256))) && (decide (r_268 = r_274))) && (r_288 == r_296)) && (decide (r_310 = r_318))) && (decide (r_0_151 = r_0_173))) && (r_1_152 == r_1_174)) && r_348) := hT.vals 66 rfl 110 rfl
        have hAp := hAp.add e358
        have e359 : a.tmps.getD 111 undef = cV (true && (((((((((((r_201 == r_205) && (r_214 == r_220)) && (decide (r_232 = r_238))) && (decide (r_250 = r_256))) && (decide (r_268 = r_274))) && (r_288 == r_296)) && (decide (r_310 = r_318))) && (decide (r_0_151 = r_0_173))) && (r_1_152 == r_1_174)) && r_348) == true)) (.bool r_355) := hT.vals 67 rfl 111 rfl
        have hAp := hAp.add e359
        exact opk_val hAp rfl (r_pick_and (g := (true && (((((((((((r_201 == r_205) && (r_214 == r_220)) && (decide (r_232 = r_238))) && (decide (r_250 = r_256))) && (decide (r_268 = r_274))) && (r_288 == r_296)) && (decide (r_310 = r_318))) && (decide (r_0_151 = r_0_173))) && (r_1_152 == r_1_174)) && r_348) == true))) (hAp.get rfl) (hAp.get rfl) (fun he => g_mkt rfl he)) fun _ _ e => ⟨_, e, Chg.refl _ _, fun _ => Eq.refl _⟩
      · intro a w hT
        have hAp := hT.ag hA191 [] trivial (by kernel_rfl)
        have e360 : a.tmps.getD 112 undef = .bool (((((((((((r_201 == r_205) && (r_214 == r_220)) && (decide (r_232 = r_238))) && (decide (r_250 = r_256))) && (decide (r_268 = r_274))) && (r_288 == r_296)) && (decide (r_310 = r_318))) && (decide (r_0_151 = r_0_173))) && (r_1_152 == r_1_174)) && r_348) && r_355) := hT.vals 68 rfl 112 rfl
        have hAp := hAp.add e360
        exact opk_val hAp rfl (r_assign (hAp.get rfl)) fun _ _ e => ⟨_, e, Chg.refl _ _, fun _ => Eq.refl _⟩
      · intro a361 w362 hE363 hag364 hv365
        have hA361 := hag364 [] trivial (by kernel_rfl)
        have e367 : a361.tmps.getD 6 undef = .bool (((((((((((r_201 == r_205) && (r_214 == r_220)) && (decide (r_232 = r_238))) && (decide (r_250 = r_256))) && (decide (r_268 = r_274))) && (r_288 == r_296)) && (decide (r_310 = r_318))) && (decide (r_0_151 = r_0_173))) && (r_1_152 == r_1_174)) && r_348) && r_355) := hv365 69 rfl 6 rfl
        have hA368 := hA361.add e367
        have hB369 := hB194.ext hE363
        have hB370 := hB195.ext hE363
        have hB371 := hB196.ext hE363
        have hB372 := hB197.ext hE363
        have hC373 : Chg [] w192 w362 := hE363
        refine PR_end (by kernel_rfl) ?_
        have hA374 := hA368.keep [(6, .bool (((((((((((r_201 == r_205) && (r_214 == r_220)) && (decide (r_232 = r_238))) && (decide (r_250 = r_256))) && (decide (r_268 = r_274))) && (r_288 == r_296)) && (decide (r_310 = r_318))) && (decide (r_0_151 = r_0_173))) && (r_1_152 == r_1_174)) && r_348) && r_355))] ⟨rfl, trivial⟩
        refine then_normal ?_
        refine wp_ret ?_
        have ht375 := ht357 w362    hC373
        exact res_all (vs := [.bool (((((((((((r_201 == r_205) && (r_214 == r_220)) && (decide (r_232 = r_238))) && (decide (r_250 = r_256))) && (decide (r_268 = r_274))) && (r_288 == r_296)) && (decide (r_310 = r_318))) && (decide (r_0_151 = r_0_173))) && (r_1_152 == r_1_174)) && r_348) && r_355)]) rfl hA374 ⟨res_of_tmp hA374 rfl, trivial⟩ ht375

/-- The condition of topiary/topiarylaw00.Grown. -/
def law00_Grown.vc (l_1 : Sl) (R : Value → World → Prop) (w : World) : Prop :=
∀ (w77 : World) (B_2 : Nat) (B_11 : Nat) (B_22 : Nat) (B_60 : Nat), New w B_2 w77 → New w B_11 w77 → New w B_22 w77 → New w B_60 w77 → B_2 ≠ B_11 → B_2 ≠ B_22 → B_2 ≠ B_60 → B_11 ≠ B_22 → B_11 ≠ B_60 → B_22 ≠ B_60 → Chg [] w w77 →
∀ (_ : Box w77 B_11 3 [.int .i64 0]),
CallK Try.prog 34 #[Sl.v l_1, .pointer (some ⟨B_11, 0, none⟩)] w77 [B_2, B_22, B_60] (fun v w96 => ∃ (r_94 : Int), v = .int .i64 r_94 ∧
∀ (_ : Box w96 B_22 3 [.int .i64 0]),
∃ (J_334 : Int → Sl → World → Prop) (mu_335 : Int → Sl → World → Nat),
J_334 (r_94.tmod 4) Sl.nil w96 ∧
(∀ (k_331 : Int) (c_332 : Sl) (w333 : World), J_334 k_331 c_332 w333 →
∃ (x_454 : Int), (((0 ≤ k_331)) → w333.cell? ⟨B_22, 0, none⟩ = some (.int .i64 x_454)) ∧
(((0 ≤ k_331) ∧ (x_454 < 40)) →
∀ (w462 : World), Chg [] w333 w462 →
CallK Try.prog 35 #[Sl.v l_1, .pointer (some ⟨B_11, 0, none⟩), .pointer (some ⟨B_22, 0, none⟩), .int .i64 1] w462 [B_2, B_60] (fun v w474 => ∃ (r_472_Kind : Int) (r_472_Name : Str) (r_472_Text : Str) (r_472_Attrs : Sl) (r_472_Kids : Sl), v = .agg #[.int .i64 r_472_Kind, .string (Bs r_472_Name), .string (Bs r_472_Text), Sl.v r_472_Attrs, Sl.v r_472_Kids] ∧
∀ (w489 : World) (B_482 : Nat), Ext w474 w489 → w474.heap.size ≤ B_482 → Box w489 B_482 26 [.int .i64 r_472_Kind, .string (Bs r_472_Name), .string (Bs r_472_Text), Sl.v r_472_Attrs, Sl.v r_472_Kids] → 
∀ (w506 : World), Chg [] w489 w506 →
∀ (_ : Box w506 B_482 26 [.int .i64 r_472_Kind, .string (Bs r_472_Name), .string (Bs r_472_Text), Sl.v r_472_Attrs, Sl.v r_472_Kids]),
RunK Try.prog (Builtin.append_ #[24, 24] 24 #[Sl.v c_332, Sl.v (Sl.mk (some ⟨B_482, 0, none⟩) 1 1)]) w506 [B_2, B_60] (fun v w519 => ∃ (r_525 : Sl), v = Sl.v r_525 ∧
(I64 (k_331 - 1)) ∧
∀ (w539 : World), Chg [B_60] w519 w539 →
J_334 (k_331 - 1) r_525 w539 ∧ mu_335 (k_331 - 1) r_525 w539 < mu_335 k_331 c_332 w333))) ∧
(((¬ (0 ≤ k_331)) ∨ (¬ (x_454 < 40))) →
∀ (w558 : World), Chg [B_2] w333 w558 →
R (.agg #[.int .i64 1, .string (Bs ([] : Str)), .string (Bs ([] : Str)), Sl.v Sl.nil, Sl.v c_332]) w558)))
set_option maxHeartbeats 1000000 in
set_option maxRecDepth 10000 in
theorem law00_Grown.ok (l_1 : Sl) {R : Value → World → Prop} {w : World} (ht0 : law00_Grown.vc l_1 R w) : Calls Try.prog 11 #[Sl.v l_1] w (Ret R) := by
  refine enter [Sl.v l_1] Try.func11 rfl Try.ntmps11 rfl ?_
  intro a0 hA0
  unfold law00_Grown.vc at ht0
  refine wp_seq ?_
  refine wp_region_lit ?_
  refine sq (opk_new (fun B => .pointer (some ⟨B, 0, none⟩)) hA0 rfl (r_alloc (cs := [.int .i64 0, .string (Bs ([] : Str)), .string (Bs ([] : Str)), Sl.v Sl.nil, Sl.v Sl.nil]) ti_26 rfl) fun a4 w3 B_2 hE5 hN6 hB7 hA4 _ => ?_)
  have hN8 : New w B_2 w3 := hN6
  have hC9 : Chg [] w w3 := hE5
  refine sq_end ?_
  have hA10 := hA4.keep [(0, Sl.v l_1), (2, .pointer (some ⟨B_2, 0, none⟩))] ⟨rfl, rfl, trivial⟩
  refine then_normal ?_
  refine wp_seq ?_
  refine wp_region_lit ?_
  refine sq (opk_new (fun B => .pointer (some ⟨B, 0, none⟩)) hA10 rfl (r_alloc (cs := [.int .i64 0]) ti_3 rfl) fun a13 w12 B_11 hE14 hN15 hB16 hA13 _ => ?_)
  have hne17 : B_2 ≠ B_11 := Nat.ne_of_lt (Nat.lt_of_lt_of_le hB7.lt hN15.ge)
  have hN18 := New.of hC9 hN15
  have hB19 := hB7.ext hE14
  have hC20 := hC9.more hE14
  have hN21 := hN8.up hE14.size
  refine sq (opk_new (fun B => .pointer (some ⟨B, 0, none⟩)) hA13 rfl (r_alloc (cs := [.int .i64 0]) ti_3 rfl) fun a24 w23 B_22 hE25 hN26 hB27 hA24 _ => ?_)
  have hne28 : B_2 ≠ B_22 := Nat.ne_of_lt (Nat.lt_of_lt_of_le hB19.lt hN26.ge)
  have hne29 : B_11 ≠ B_22 := Nat.ne_of_lt (Nat.lt_of_lt_of_le hB16.lt hN26.ge)
  have hN30 := New.of hC20 hN26
  have hB31 := hB19.ext hE25
  have hB32 := hB16.ext hE25
  have hC33 := hC20.more hE25
  have hN34 := hN21.up hE25.size
  have hN35 := hN18.up hE25.size
  refine sq (opk_store hA24 hB32 (r_store (vs := [.int .i64 0]) (hA24.get rfl) rfl rfl ti_3 hB32 rfl (ones_all [.int .i64 0] rfl)) fun a37 w36 hS38 hB39 hA37 => ?_)
  have hB40 : Box w36 B_11 3 [.int .i64 0] := hB39
  have hB41 := hB31.keep hS38 (by simpa using hne17)
  have hB42 := hB27.keep hS38 (by simpa using hne29.symm)
  have hC43 := hC33.storeNew hN35 hS38
  have hN44 := hN34.up hS38.size
  have hN45 := hN35.up hS38.size
  have hN46 := hN30.up hS38.size
  refine sq (opk_store hA37 hB42 (r_store (vs := [.int .i64 0]) (hA37.get rfl) rfl rfl ti_3 hB42 rfl (ones_all [.int .i64 0] rfl)) fun a48 w47 hS49 hB50 hA48 => ?_)
  have hB51 : Box w47 B_22 3 [.int .i64 0] := hB50
  have hB52 := hB41.keep hS49 (by simpa using hne28)
  have hB53 := hB40.keep hS49 (by simpa using hne29)
  have hC54 := hC43.storeNew hN46 hS49
  have hN55 := hN44.up hS49.size
  have hN56 := hN45.up hS49.size
  have hN57 := hN46.up hS49.size
  refine sq_end ?_
  have hA58 := hA48.keep [(0, Sl.v l_1), (2, .pointer (some ⟨B_2, 0, none⟩)), (3, .pointer (some ⟨B_11, 0, none⟩)), (4, .pointer (some ⟨B_22, 0, none⟩))] ⟨rfl, rfl, rfl, rfl, trivial⟩
  refine then_normal ?_
  refine wp_seq ?_
  refine wp_region_lit ?_
  refine sq (opk_val hA58 rfl (r_build (vs := #[(0, .int .i64 1)]) (cells := #[.int .i64 1, .string (Bs ([] : Str)), .string (Bs ([] : Str)), Sl.v Sl.nil, Sl.v Sl.nil]) (map_arr2 (ml2_cons rfl (ml2_nil))) ti_26 Try.underlying26 pl_26 (by kernel_rfl)) fun a59 hA59 _ => ?_)
  refine sq (opk_new (fun B => .pointer (some ⟨B, 0, none⟩)) hA59 rfl (r_alloc (cs := [.int .i64 0, .string (Bs ([] : Str)), .string (Bs ([] : Str)), Sl.v Sl.nil, Sl.v Sl.nil]) ti_26 rfl) fun a62 w61 B_60 hE63 hN64 hB65 hA62 _ => ?_)
  have hne66 : B_2 ≠ B_60 := Nat.ne_of_lt (Nat.lt_of_lt_of_le hB52.lt hN64.ge)
  have hne67 : B_11 ≠ B_60 := Nat.ne_of_lt (Nat.lt_of_lt_of_le hB53.lt hN64.ge)
  have hne68 : B_22 ≠ B_60 := Nat.ne_of_lt (Nat.lt_of_lt_of_le hB51.lt hN64.ge)
  have hN69 := New.of hC54 hN64
  have hB70 := hB52.ext hE63
  have hB71 := hB53.ext hE63
  have hB72 := hB51.ext hE63
  have hC73 := hC54.more hE63
  have hN74 := hN55.up hE63.size
  have hN75 := hN56.up hE63.size
  have hN76 := hN57.up hE63.size
  refine sq (opk_store hA62 hB65 (r_store (vs := [.int .i64 1, .string (Bs ([] : Str)), .string (Bs ([] : Str)), Sl.v Sl.nil, Sl.v Sl.nil]) (hA62.get rfl) (hA62.get rfl) rfl ti_26 hB65 rfl (ones_all [.int .i64 1, .string (Bs ([] : Str)), .string (Bs ([] : Str)), Sl.v Sl.nil, Sl.v Sl.nil] rfl)) fun a78 w77 hS79 hB80 hA78 => ?_)
  have hB81 : Box w77 B_60 26 [.int .i64 1, .string (Bs ([] : Str)), .string (Bs ([] : Str)), Sl.v Sl.nil, Sl.v Sl.nil] := hB80
  have hB82 := hB70.keep hS79 (by simpa using hne66)
  have hB83 := hB71.keep hS79 (by simpa using hne67)
  have hB84 := hB72.keep hS79 (by simpa using hne68)
  have hC85 := hC73.storeNew hN69 hS79
  have hN86 := hN74.up hS79.size
  have hN87 := hN75.up hS79.size
  have hN88 := hN76.up hS79.size
  have hN89 := hN69.up hS79.size
  refine sq_end ?_
  have hA90 := hA78.keep [(0, Sl.v l_1), (2, .pointer (some ⟨B_2, 0, none⟩)), (3, .pointer (some ⟨B_11, 0, none⟩)), (4, .pointer (some ⟨B_22, 0, none⟩)), (5, .pointer (some ⟨B_60, 0, none⟩))] ⟨rfl, rfl, rfl, rfl, rfl, trivial⟩
  refine then_normal ?_
  refine wp_seq ?_
  refine wp_seq ?_
  refine wp_region_lit ?_
  refine sq (opk_val hA90 rfl (r_move (hA90.get rfl)) fun a91 hA91 _ => ?_)
  have ht92 := ht0 w77 B_2 B_11 B_22 B_60 hN86 hN87 hN88 hN89 hne17 hne28 hne66 hne29 hne67 hne68 hC85
  have ht93 := ht92 hB83
  refine sq (opk_call hA91 rfl (r_call (args := #[Sl.v l_1, .pointer (some ⟨B_11, 0, none⟩)]) Try.func34 (by decide) rfl (map_arr (ml_cons (hA91.get rfl) (ml_cons (hA91.get rfl) ml_nil))) rfl) ht93 fun a95 v101 w96 hA95 _ hn98 hz99 hK100 => ?_)
  obtain ⟨r_94, rfl, ht97⟩ := hK100
  have hB102 := hB82.kept hn98 (.head _)
  have hB103 := hB84.kept hn98 (.tail _ (.head _))
  have hB104 := hB81.kept hn98 (.tail _ (.tail _ (.head _)))
  refine sq (opk_val hA95 rfl (r_rem (hA95.get rfl) rfl (by decide)) fun a105 hA105 _ => ?_)
  refine sq (opk_val hA105 rfl (r_assign (hA105.get rfl)) fun a106 hA106 _ => ?_)
  refine sq_end ?_
  have hA107 := hA106.keep [(0, Sl.v l_1), (2, .pointer (some ⟨B_2, 0, none⟩)), (3, .pointer (some ⟨B_11, 0, none⟩)), (4, .pointer (some ⟨B_22, 0, none⟩)), (5, .pointer (some ⟨B_60, 0, none⟩)), (6, .int .i64 (r_94.tmod 4))] ⟨rfl, rfl, rfl, rfl, rfl, rfl, trivial⟩
  refine then_normal ?_
  refine wp_block ?_
  have ht219 := ht97 hB103
  obtain ⟨J_334, mu_335, h0447, ht446⟩ := ht219
  refine wp_loop_st (σ := Int × Sl × World) (fun s a w => Ag 27 a [(0, Sl.v l_1), (2, .pointer (some ⟨B_2, 0, none⟩)), (3, .pointer (some ⟨B_11, 0, none⟩)), (4, .pointer (some ⟨B_22, 0, none⟩)), (5, .pointer (some ⟨B_60, 0, none⟩)), (6, .int .i64 s.1)] ∧ Box w B_2 26 [.int .i64 0, .string (Bs ([] : Str)), .string (Bs ([] : Str)), Sl.v Sl.nil, Sl.v Sl.nil] ∧ Box w B_60 26 [.int .i64 1, .string (Bs ([] : Str)), .string (Bs ([] : Str)), Sl.v Sl.nil, Sl.v s.2.1] ∧ w = s.2.2 ∧ J_334 s.1 s.2.1 s.2.2) (fun s => mu_335 s.1 s.2.1 s.2.2) (r_94.tmod 4, Sl.nil, w96) ⟨hA107.keep [(0, Sl.v l_1), (2, .pointer (some ⟨B_2, 0, none⟩)), (3, .pointer (some ⟨B_11, 0, none⟩)), (4, .pointer (some ⟨B_22, 0, none⟩)), (5, .pointer (some ⟨B_60, 0, none⟩)), (6, .int .i64 (r_94.tmod 4))] ⟨rfl, rfl, rfl, rfl, rfl, rfl, trivial⟩, hB102, hB104, rfl, h0447⟩ ?_
  rintro ⟨k_331, c_332, w333⟩ a443 w_ ⟨hA443, hB444, hB445, hw_, hJ449⟩
  have hw_ : w333 = w_ := hw_.symm
  subst hw_
  have ht448 := ht446 k_331 c_332 _ hJ449
  refine wp_seq ?_
  refine wp_seq ?_
  refine wp_region_lit ?_
  refine sq (opk_val hA443 rfl (r_move (hA443.get rfl)) fun a450 hA450 _ => ?_)
  refine sq (opk_val hA450 rfl (r_geq (hA450.get rfl) rfl) fun a451 hA451 _ => ?_)
  refine sq (opk_val hA451 rfl (r_move (hA451.get rfl)) fun a452 hA452 _ => ?_)
  obtain ⟨x_454, hx455, ht456⟩ := ht448
  refine sq (opk_gval hA452 rfl rfl (g := true) (e := (decide (0 ≤ k_331))) rfl (fun hg => r_load1 Try.underlying3 rfl (hA452.get rfl) (hx455 (of_decide_eq_true (g_t hg)))) fun a453 hA453 _ => ?_)
  refine sq (opk_gval hA453 rfl rfl (g := true) (e := (decide (0 ≤ k_331))) rfl (fun hg => r_lss (cv_get (hA453.get rfl) hg) rfl) fun a457 hA457 _ => ?_)
  refine sq (opk_val hA457 rfl (r_pick_and (g := (true && ((decide (0 ≤ k_331)) == true))) (hA457.get rfl) (hA457.get rfl) (fun he => g_mkt rfl he)) fun a458 hA458 _ => ?_)
  refine sq_end ?_
  have hA459 := hA458.keep [(0, Sl.v l_1), (2, .pointer (some ⟨B_2, 0, none⟩)), (3, .pointer (some ⟨B_11, 0, none⟩)), (4, .pointer (some ⟨B_22, 0, none⟩)), (5, .pointer (some ⟨B_60, 0, none⟩)), (6, .int .i64 k_331), (16, .bool ((decide (0 ≤ k_331)) && (decide (x_454 < 40))))] ⟨rfl, rfl, rfl, rfl, rfl, rfl, rfl, trivial⟩
  refine then_normal ?_
  refine wp_cond_split (hA459.get rfl) (fun hc => ?_) (fun hc => ?_)
  · have ht460 := ht456.1 ⟨(of_decide_eq_true (b_and_t hc).1), (of_decide_eq_true (b_and_t hc).2)⟩
    clear hc
    refine wp_skip ?_
    refine then_normal ?_
    refine wp_seq ?_
    refine wp_block ?_
    refine draw' (by kernel_rfl) fun w462 hE463 => ?_
    have hB464 := hB444.ext hE463
    have hB465 := hB445.ext hE463
    have hC466 : Chg [] w333 w462 := hE463
    have ht467 := ht460 w462    hC466
    refine startF (D := [[], [0], [], [2], [2, 3], [0, 1, 2, 3, 4], [0, 1, 2, 3, 4, 5], [0, 1, 2, 3, 4, 5, 6]]) (Fs := [0, 1, 2]) (Ef := [(0, fun v _ => v = .pointer (some ⟨B_60, 4, none⟩)), (1, fun v _ => v = Sl.v c_332), (2, fun v _ => v = Sl.v l_1)]) (by kernel_rfl) ?_
    refine oneF (c := 3) hA459 rfl (by kernel_rfl) (constF ⟨fun _ _ _ h => by first | exact h | (change _ = _ at h; change _ = _; exact h), fun _ _ _ h => by first | exact h | (change _ = _ at h; change _ = _; exact h), fun _ _ _ h => by first | exact h | (change _ = _ at h; change _ = _; exact h), trivial⟩) ⟨?_, ?_, ?_, trivial⟩ ?_
    · intro a hT
      have hAp := hT.ag hA459 [(5, .pointer (some ⟨B_60, 0, none⟩))] ⟨rfl, trivial⟩ (by kernel_rfl)
      exact opk_val hAp rfl (r_fieldAddr (hAp.get rfl) Try.underlying26 rfl ti_24 (by decide)) fun _ _ e => ⟨_, e, rfl, fun _ => Eq.refl _⟩
    · intro a hT
      have hAp := hT.ag hA459 [] trivial (by kernel_rfl)
      have e468 : a.tmps.getD 19 undef = .pointer (some ⟨B_60, 4, none⟩) := hT.vals 0 rfl 19 rfl
      have hAp := hAp.add e468
      exact opk_val hAp rfl (r_load1 Try.underlying24 rfl (hAp.get rfl) ((hB465.ext hT.chg).cell 4 _ rfl)) fun _ _ e => ⟨_, e, rfl, fun _ => Eq.refl _⟩
    · intro a hT
      have hAp := hT.ag hA459 [(0, Sl.v l_1)] ⟨rfl, trivial⟩ (by kernel_rfl)
      exact opk_val hAp rfl (r_move (hAp.get rfl)) fun _ _ e => ⟨_, e, rfl, fun _ => Eq.refl _⟩
    · intro a469 hT
      have hA469 := hT.ag hA459 [(0, Sl.v l_1), (2, .pointer (some ⟨B_2, 0, none⟩)), (3, .pointer (some ⟨B_11, 0, none⟩)), (4, .pointer (some ⟨B_22, 0, none⟩)), (5, .pointer (some ⟨B_60, 0, none⟩)), (6, .int .i64 k_331), (16, .bool ((decide (0 ≤ k_331)) && (decide (x_454 < 40))))] ⟨rfl, rfl, rfl, rfl, rfl, rfl, rfl, trivial⟩ (by kernel_rfl)
      have e470 : a469.tmps.getD 21 undef = Sl.v l_1 := hT.vals 2 rfl 21 rfl
      have hA471 := hA469.add e470
      refine (opk_call hA471 rfl (r_call (args := #[Sl.v l_1, .pointer (some ⟨B_11, 0, none⟩), .pointer (some ⟨B_22, 0, none⟩), .int .i64 1]) Try.func35 (by decide) rfl (map_arr (ml_cons (hA471.get rfl) (ml_cons (hA471.get rfl) (ml_cons (hA471.get rfl) (ml_cons rfl ml_nil))))) rfl) ht467 fun a473 v479 w474 hA473 heq555 hn476 hz477 hK478 => ?_)
      refine ⟨_, heq555, ?_⟩
      obtain ⟨r_472_Kind, r_472_Name, r_472_Text, r_472_Attrs, r_472_Kids, rfl, ht475⟩ := hK478
      have hB480 := hB464.kept hn476 (.head _)
      have hB481 := hB465.kept hn476 (.tail _ (.head _))
      refine parF (D := [[], [0], [], [2], [2, 3], [0, 1, 2, 3, 4], [0, 1, 2, 3, 4, 5], [0, 1, 2, 3, 4, 5, 6]]) (S := [4]) (F := []) (KE := [4]) (E := [(4, fun v w' => ∃ B_482 : Nat, w474.heap.size ≤ B_482 ∧ Box w' B_482 26 [.int .i64 r_472_Kind, .string (Bs r_472_Name), .string (Bs r_472_Text), Sl.v r_472_Attrs, Sl.v r_472_Kids] ∧ v = Sl.v (Sl.mk (some ⟨B_482, 0, none⟩) 1 1))]) hA473 rfl (by kernel_rfl) ⟨fun _ _ _ hE ⟨B_482, h0_, h1_, e⟩ => ⟨B_482, h0_, (h1_.ext hE), e⟩, fun _ _ _ _ h => by first | exact h | (change _ = _ at h; change _ = _; exact h), fun _ _ _ _ h => by first | exact h | (change _ = _ at h; change _ = _; exact h), fun _ _ _ _ h => by first | exact h | (change _ = _ at h; change _ = _; exact h), trivial⟩ ⟨?_, ?_, ?_, ?_, trivial⟩ ?_
      · intro a w hT
        have hAp := hT.ag hA473 [(22, .agg #[.int .i64 r_472_Kind, .string (Bs r_472_Name), .string (Bs r_472_Text), Sl.v r_472_Attrs, Sl.v r_472_Kids])] ⟨rfl, trivial⟩ (by kernel_rfl)
        exact opk_new (fun B => .slice (some ⟨B, 0, none⟩) 1 1) hAp rfl (r_buildSlice (vs := #[(0, .agg #[.int .i64 r_472_Kind, .string (Bs r_472_Name), .string (Bs r_472_Text), Sl.v r_472_Attrs, Sl.v r_472_Kids])]) (cs := [.int .i64 r_472_Kind, .string (Bs r_472_Name), .string (Bs r_472_Text), Sl.v r_472_Attrs, Sl.v r_472_Kids]) (map_arr2 (ml2_cons (hAp.get rfl) (ml2_nil))) Try.underlying24 ti_26 rfl rfl (by kernel_rfl)) fun _ w483 B_482 hE484 hN485 hB486 _ e => ⟨_, e, hE484, fun _ => ⟨B_482, Nat.le_trans hT.chg.size hN485.ge, hB486, rfl⟩⟩
      · intro a w hT
        have hAp := hT.ag hA473 [(5, .pointer (some ⟨B_60, 0, none⟩))] ⟨rfl, trivial⟩ (by kernel_rfl)
        exact opk_val hAp rfl (r_fieldAddr (hAp.get rfl) Try.underlying26 rfl ti_24 (by decide)) fun _ _ e => ⟨_, e, Chg.refl _ _, fun _ => Eq.refl _⟩
      · intro a w hT
        have hAp := hT.ag hA473 [] trivial (by kernel_rfl)
        have e487 : a.tmps.getD 19 undef = .pointer (some ⟨B_60, 4, none⟩) := hT.vals 0 rfl 19 rfl
        have hAp := hAp.add e487
        exact opk_val hAp rfl (r_load1 Try.underlying24 rfl (hAp.get rfl) ((hB481.ext hT.chg).cell 4 _ rfl)) fun _ _ e => ⟨_, e, Chg.refl _ _, fun _ => Eq.refl _⟩
      · intro a w hT
        have hAp := hT.ag hA473 [(0, Sl.v l_1)] ⟨rfl, trivial⟩ (by kernel_rfl)
        exact opk_val hAp rfl (r_move (hAp.get rfl)) fun _ _ e => ⟨_, e, Chg.refl _ _, fun _ => Eq.refl _⟩
      · intro a488 w489 hE490 hag491 hv492
        have hA488 := hag491 [(0, Sl.v l_1), (2, .pointer (some ⟨B_2, 0, none⟩)), (3, .pointer (some ⟨B_11, 0, none⟩)), (4, .pointer (some ⟨B_22, 0, none⟩)), (5, .pointer (some ⟨B_60, 0, none⟩)), (6, .int .i64 k_331)] ⟨rfl, rfl, rfl, rfl, rfl, rfl, trivial⟩ (by kernel_rfl)
        obtain ⟨B_482, hf496, hf497, e494⟩ := hv492 4 rfl 23 rfl
        have hA495 := hA488.add e494
        have hB498 := hB480.ext hE490
        have hB499 := hB481.ext hE490
        have hC500 : Chg [] w474 w489 := hE490
        have ht501 := ht475 w489 B_482 hE490 hf496 hf497
        have hne502 : B_2 ≠ B_482 := Nat.ne_of_lt (Nat.lt_of_lt_of_le hB480.lt hf496)
        have hne503 : B_60 ≠ B_482 := Nat.ne_of_lt (Nat.lt_of_lt_of_le hB481.lt hf496)
        refine joinF hA495 (by kernel_rfl) ⟨fun _ _ _ _ h => by first | exact h | (change _ = _ at h; change _ = _; exact h), fun _ _ _ _ h => by first | exact h | (change _ = _ at h; change _ = _; exact h), fun _ _ _ _ h => by first | exact h | (change _ = _ at h; change _ = _; exact h), trivial⟩ ⟨?_, ?_, ?_, trivial⟩ ?_
        · intro a w hT
          have hAp := hT.ag hA495 [(5, .pointer (some ⟨B_60, 0, none⟩))] ⟨rfl, trivial⟩ (by kernel_rfl)
          exact opk_val hAp rfl (r_fieldAddr (hAp.get rfl) Try.underlying26 rfl ti_24 (by decide)) fun _ _ e => ⟨_, e, Chg.refl _ _, fun _ => Eq.refl _⟩
        · intro a w hT
          have hAp := hT.ag hA495 [] trivial (by kernel_rfl)
          have e504 : a.tmps.getD 19 undef = .pointer (some ⟨B_60, 4, none⟩) := hT.vals 0 rfl 19 rfl
          have hAp := hAp.add e504
          exact opk_val hAp rfl (r_load1 Try.underlying24 rfl (hAp.get rfl) ((hB499.ext hT.chg).cell 4 _ rfl)) fun _ _ e => ⟨_, e, Chg.refl _ _, fun _ => Eq.refl _⟩
        · intro a w hT
          have hAp := hT.ag hA495 [(0, Sl.v l_1)] ⟨rfl, trivial⟩ (by kernel_rfl)
          exact opk_val hAp rfl (r_move (hAp.get rfl)) fun _ _ e => ⟨_, e, Chg.refl _ _, fun _ => Eq.refl _⟩
        · intro a505 w506 hE507 hag508 hv509
          have hA505 := hag508 [(0, Sl.v l_1), (2, .pointer (some ⟨B_2, 0, none⟩)), (3, .pointer (some ⟨B_11, 0, none⟩)), (4, .pointer (some ⟨B_22, 0, none⟩)), (5, .pointer (some ⟨B_60, 0, none⟩)), (6, .int .i64 k_331), (23, Sl.v (Sl.mk (some ⟨B_482, 0, none⟩) 1 1))] ⟨rfl, rfl, rfl, rfl, rfl, rfl, rfl, trivial⟩ (by kernel_rfl)
          have e510 : a505.tmps.getD 20 undef = Sl.v c_332 := hv509 1 rfl 20 rfl
          have hA511 := hA505.add e510
          have hB512 := hB498.ext hE507
          have hB513 := hB499.ext hE507
          have hB514 := hf497.ext hE507
          have hC515 : Chg [] w489 w506 := hE507
          have ht516 := ht501 w506    hC515
          have ht517 := ht516 hB514
          refine one (D := [[], [0], [], [2], [2, 3], [0, 1, 2, 3, 4], [0, 1, 2, 3, 4, 5], [0, 1, 2, 3, 4, 5, 6]]) (i := 5) rfl (by kernel_rfl) (opk_run hA511 rfl (fun _ _ hr => r_append (hA511.get rfl) (hA511.get rfl) hr) ht517 fun a518 v524 w519 hA518 _ hn521 hz522 hK523 => ?_)
          obtain ⟨r_525, rfl, ht520⟩ := hK523
          have hB526 := hB512.kept hn521 (.head _)
          have hB527 := hB513.kept hn521 (.tail _ (.head _))
          refine par (D := [[], [0], [], [2], [2, 3], [0, 1, 2, 3, 4], [0, 1, 2, 3, 4, 5], [0, 1, 2, 3, 4, 5, 6]]) (S := [6]) (F := []) (V := VL [(6, fun v _ => v = .pointer (some ⟨B_60, 4, none⟩))]) hA518 (by kernel_rfl) ⟨fun _ _ _ _ h => by first | exact h | (change _ = _ at h; change _ = _; exact h), trivial⟩ ⟨?_, trivial⟩ ?_
          · intro a w hT
            have hAp := hT.ag hA518 [(5, .pointer (some ⟨B_60, 0, none⟩))] ⟨rfl, trivial⟩ (by kernel_rfl)
            exact opk_val hAp rfl (r_fieldAddr (hAp.get rfl) Try.underlying26 rfl ti_24 (by decide)) fun _ _ e => ⟨_, e, Chg.refl _ _, fun _ => Eq.refl _⟩
          · intro a528 w529 hE530 hag531 hv532
            have hA528 := hag531 [(0, Sl.v l_1), (2, .pointer (some ⟨B_2, 0, none⟩)), (3, .pointer (some ⟨B_11, 0, none⟩)), (4, .pointer (some ⟨B_22, 0, none⟩)), (5, .pointer (some ⟨B_60, 0, none⟩)), (6, .int .i64 k_331), (24, Sl.v r_525)] ⟨rfl, rfl, rfl, rfl, rfl, rfl, rfl, trivial⟩ (by kernel_rfl)
            have e534 : a528.tmps.getD 25 undef = .pointer (some ⟨B_60, 4, none⟩) := hv532 6 rfl 25 rfl
            have hA535 := hA528.add e534
            have hB536 := hB526.ext hE530
            have hB537 := hB527.ext hE530
            have hC538 : Chg [] w519 w529 := hE530
            refine one (D := [[], [0], [], [2], [2, 3], [0, 1, 2, 3, 4], [0, 1, 2, 3, 4, 5], [0, 1, 2, 3, 4, 5, 6]]) (i := 7) rfl (by kernel_rfl) (opk_store hA535 hB537 (r_store (vs := [Sl.v r_525]) (hA535.get rfl) (hA535.get rfl) rfl ti_24 hB537 rfl (ones_all [Sl.v r_525] rfl)) fun a540 w539 hS541 hB542 hA540 => ?_)
            have hB543 : Box w539 B_60 26 [.int .i64 1, .string (Bs ([] : Str)), .string (Bs ([] : Str)), Sl.v Sl.nil, Sl.v r_525] := hB542
            have hB544 := hB536.keep hS541 (by simpa using hne66)
            have hC545 := hC538.storeOld hS541
            refine PR_end (by kernel_rfl) ?_
            have hA546 := hA540.keep [(0, Sl.v l_1), (2, .pointer (some ⟨B_2, 0, none⟩)), (3, .pointer (some ⟨B_11, 0, none⟩)), (4, .pointer (some ⟨B_22, 0, none⟩)), (5, .pointer (some ⟨B_60, 0, none⟩)), (6, .int .i64 k_331)] ⟨rfl, rfl, rfl, rfl, rfl, rfl, trivial⟩
            refine block_normal ?_
            refine then_normal ?_
            refine wp_region_lit ?_
            refine sq (opk_val hA546 rfl (r_move (hA546.get rfl)) fun a547 hA547 _ => ?_)
            obtain ⟨hS549, ht550⟩ := ht520
            refine sq (opk_val hA547 rfl (r_subI (hA547.get rfl) rfl hS549) fun a548 hA548 _ => ?_)
            refine sq (opk_val hA548 rfl (r_assign (hA548.get rfl)) fun a551 hA551 _ => ?_)
            refine sq_end ?_
            have hA552 := hA551.keep [(0, Sl.v l_1), (2, .pointer (some ⟨B_2, 0, none⟩)), (3, .pointer (some ⟨B_11, 0, none⟩)), (4, .pointer (some ⟨B_22, 0, none⟩)), (5, .pointer (some ⟨B_60, 0, none⟩)), (6, .int .i64 (k_331 - 1))] ⟨rfl, rfl, rfl, rfl, rfl, rfl, trivial⟩
            have ht553 := ht550 w539    hC545
            have hA554 := hA552.keep [(0, Sl.v l_1), (2, .pointer (some ⟨B_2, 0, none⟩)), (3, .pointer (some ⟨B_11, 0, none⟩)), (4, .pointer (some ⟨B_22, 0, none⟩)), (5, .pointer (some ⟨B_60, 0, none⟩)), (6, .int .i64 (k_331 - 1))] ⟨rfl, rfl, rfl, rfl, rfl, rfl, trivial⟩
            exact then_normal ⟨(k_331 - 1, r_525, w539), ⟨hA554, hB544, hB543, rfl, ht553.1⟩, ht553.2⟩
  · have ht461 := ht456.2 ((b_and_f hc).imp (fun h => (of_decide_eq_false h)) (fun h => (of_decide_eq_false h)))
    clear hc
    refine wp_exit ?_
    refine then_exit ?_
    refine then_exit ?_
    refine block_hit ?_
    have hA556 := hA459.keep [(2, .pointer (some ⟨B_2, 0, none⟩)), (5, .pointer (some ⟨B_60, 0, none⟩))] ⟨rfl, rfl, trivial⟩
    refine then_normal ?_
    refine wp_seq ?_
    refine wp_region_lit ?_
    refine sq (opk_val hA556 rfl (r_loadN (cs := [.int .i64 1, .string (Bs ([] : Str)), .string (Bs ([] : Str)), Sl.v Sl.nil, Sl.v c_332]) Try.underlying26 rfl ti_26 (hA556.get rfl) (hB445.part 0 _ rfl)) fun a557 hA557 _ => ?_)
    refine sq (opk_store hA557 hB444 (r_store (vs := [.int .i64 1, .string (Bs ([] : Str)), .string (Bs ([] : Str)), Sl.v Sl.nil, Sl.v c_332]) (hA557.get rfl) (hA557.get rfl) rfl ti_26 hB444 rfl (ones_all [.int .i64 1, .string (Bs ([] : Str)), .string (Bs ([] : Str)), Sl.v Sl.nil, Sl.v c_332] rfl)) fun a559 w558 hS560 hB561 hA559 => ?_)
    have hB562 : Box w558 B_2 26 [.int .i64 1, .string (Bs ([] : Str)), .string (Bs ([] : Str)), Sl.v Sl.nil, Sl.v c_332] := hB561
    have hB563 := hB445.keep hS560 (by simpa using hne66.symm)
    have hC564 : Chg [B_2] w333 w558 := hS560
    refine sq_end ?_
    have hA565 := hA559.keep [(2, .pointer (some ⟨B_2, 0, none⟩))] ⟨rfl, trivial⟩
    refine then_normal ?_
    refine wp_ret ?_
    have ht566 := ht461 w558    hC564
    exact res_all (vs := [.agg #[.int .i64 1, .string (Bs ([] : Str)), .string (Bs ([] : Str)), Sl.v Sl.nil, Sl.v c_332]]) rfl hA565 ⟨res_of_cell hA565 rfl hB562 Try.underlying26 rfl ti_26, trivial⟩ ht566

end Go.Proofs.Ytpacegmmbabhjaa
