/-
  PRINTED BY PROGRAM: for each function its condition (vc), and that this suffices (ok).
-/
import Derived.Test.YtghmgfkdnolcdaaQApplyInsertsGT
namespace Go.Proofs.Ytghmgfkdnolcdaa
open Go.RowKit
set_option linter.unusedVariables false

/-- The condition of topiary/dom.New. -/
def dom_New.vc (t_1_Kind : Int) (t_1_Name : Str) (t_1_Text : Str) (t_1_Attrs : Sl) (t_1_Kids : Sl) (R : Value → World → Prop) (w : World) : Prop :=
∀ (w3 : World) (B_2 : Nat), New w B_2 w3 → Chg [] w w3 →
CallK Try.prog 31 #[.agg #[.int .i64 t_1_Kind, .string (Bs t_1_Name), .string (Bs t_1_Text), Sl.v t_1_Attrs, Sl.v t_1_Kids]] w3 [B_2] (fun v w17 => ∃ (r_15 : Bool), v = .bool r_15 ∧
((r_15 = false) →
R (.tuple #[.pointer none, .int .i64 1]) w17) ∧
((r_15 = true) →
RunK Try.prog (Instr.makeMap 68 none) w17 [B_2] (fun v w32 => ∃ (r_38 : Option Nat), v = .map r_38 ∧
∀ (w42 : World) (B_41 : Nat), New w32 B_41 w42 → Chg [] w32 w42 →
∀ (_ : Box w42 B_41 71 [Sl.v Sl.nil, .map r_38]),
CallK Try.prog 44 #[.pointer (some (⟨B_41, 0, none⟩ : Addr)), .agg #[.int .i64 t_1_Kind, .string (Bs t_1_Name), .string (Bs t_1_Text), Sl.v t_1_Attrs, Sl.v t_1_Kids], .int .i64 (-1)] w42 [B_2] (fun v w59 => ∃ (r_57 : Int), v = .int .i64 r_57 ∧
R (.tuple #[.pointer (some (⟨B_41, 0, none⟩ : Addr)), .int .i64 0]) w59))))
set_option maxHeartbeats 1000000 in
set_option maxRecDepth 10000 in
theorem dom_New.ok (t_1_Kind : Int) (t_1_Name : Str) (t_1_Text : Str) (t_1_Attrs : Sl) (t_1_Kids : Sl) {R : Value → World → Prop} {w : World} (ht0 : dom_New.vc t_1_Kind t_1_Name t_1_Text t_1_Attrs t_1_Kids R w) : Calls Try.prog 13 #[.agg #[.int .i64 t_1_Kind, .string (Bs t_1_Name), .string (Bs t_1_Text), Sl.v t_1_Attrs, Sl.v t_1_Kids]] w (Ret R) := by
  refine enter [.agg #[.int .i64 t_1_Kind, .string (Bs t_1_Name), .string (Bs t_1_Text), Sl.v t_1_Attrs, Sl.v t_1_Kids]] Try.func13 rfl Try.ntmps13 rfl ?_
  intro a0 hA0
  unfold dom_New.vc at ht0
  refine wp_seq ?_
  refine wp_region_lit ?_
  refine sq (opk_new (fun B => .pointer (some ⟨B, 0, none⟩)) hA0 rfl (r_box (cs := [.int .i64 t_1_Kind, .string (Bs t_1_Name), .string (Bs t_1_Text), Sl.v t_1_Attrs, Sl.v t_1_Kids]) (hA0.get rfl) rfl) fun a4 w3 B_2 hE5 hN6 hB7 hA4 _ => ?_)
  have hN8 : New w B_2 w3 := hN6
  have hC9 : Chg [] w w3 := hE5
  refine sq (opk_val hA4 rfl (r_assign rfl) fun a10 hA10 _ => ?_)
  refine sq (opk_val hA10 rfl (r_assign rfl) fun a11 hA11 _ => ?_)
  refine sq_end ?_
  have hA12 := hA11.keep [(1, .pointer (some (⟨B_2, 0, none⟩ : Addr)))] ⟨rfl, trivial⟩
  refine then_normal ?_
  refine wp_seq ?_
  refine wp_seq ?_
  refine wp_region_lit ?_
  refine sq (opk_val hA12 rfl (r_loadN (cs := [.int .i64 t_1_Kind, .string (Bs t_1_Name), .string (Bs t_1_Text), Sl.v t_1_Attrs, Sl.v t_1_Kids]) Try.underlying29 rfl ti_29 (hA12.get rfl) (hB7.part 0 _ rfl)) fun a13 hA13 _ => ?_)
  have ht14 := ht0 w3 B_2 hN8  hC9
  refine sq (opk_call hA13 rfl (r_call (args := #[.agg #[.int .i64 t_1_Kind, .string (Bs t_1_Name), .string (Bs t_1_Text), Sl.v t_1_Attrs, Sl.v t_1_Kids]]) Try.func31 (by decide) rfl (map_arr (ml_cons (hA13.get rfl) ml_nil)) rfl) ht14 fun a16 v22 w17 hA16 _ hn19 hz20 hK21 => ?_)
  obtain ⟨r_15, rfl, ht18⟩ := hK21
  have hB23 := hB7.kept hn19 (.head _)
  refine sq (opk_val hA16 rfl (r_not (hA16.get rfl)) fun a24 hA24 _ => ?_)
  refine sq_end ?_
  have hA25 := hA24.keep [(1, .pointer (some (⟨B_2, 0, none⟩ : Addr))), (7, .bool (!r_15))] ⟨rfl, rfl, trivial⟩
  refine then_normal ?_
  refine wp_cond_split (hA25.get rfl) (fun hc => ?_) (fun hc => ?_)
  · have ht26 := ht18.1 (b_not_t hc)
    clear hc
    refine wp_seq ?_
    refine wp_region_lit ?_
    refine sq (opk_val hA25 rfl (r_assign rfl) fun a28 hA28 _ => ?_)
    refine sq (opk_val hA28 rfl (r_assign rfl) fun a29 hA29 _ => ?_)
    refine sq_end ?_
    have hA30 := hA29.keep [(2, .pointer none), (3, .int .i64 1)] ⟨rfl, rfl, trivial⟩
    refine then_normal ?_
    refine wp_ret ?_
    refine then_ret ?_
    exact res_all (vs := [.pointer none, .int .i64 1]) rfl hA30 ⟨res_of_tmp hA30 rfl, res_of_tmp hA30 rfl, trivial⟩ ht26
  · have ht27 := ht18.2 (b_not_f hc)
    clear hc
    refine wp_skip ?_
    refine then_normal ?_
    refine wp_seq ?_
    refine wp_region_lit ?_
    refine sq (opk_run hA25 rfl (fun _ _ hr => r_makeMap hr) ht27 fun a31 v37 w32 hA31 _ hn34 hz35 hK36 => ?_)
    obtain ⟨r_38, rfl, ht33⟩ := hK36
    have hB39 := hB23.kept hn34 (.head _)
    refine sq (opk_val hA31 rfl (r_build (vs := #[(1, .map r_38)]) (cells := #[Sl.v Sl.nil, .map r_38]) (map_arr2 (ml2_cons (hA31.get rfl) (ml2_nil))) ti_71 Try.underlying71 pl_71 (by kernel_rfl)) fun a40 hA40 _ => ?_)
    refine sq (opk_new (fun B => .pointer (some ⟨B, 0, none⟩)) hA40 rfl (r_box (cs := [Sl.v Sl.nil, .map r_38]) (hA40.get rfl) rfl) fun a43 w42 B_41 hE44 hN45 hB46 hA43 _ => ?_)
    have hne47 : B_2 ≠ B_41 := Nat.ne_of_lt (Nat.lt_of_lt_of_le hB39.lt hN45.ge)
    have hN48 : New w32 B_41 w42 := hN45
    have hB49 := hB39.ext hE44
    have hC50 : Chg [] w32 w42 := hE44
    refine sq (opk_val hA43 rfl (r_assign (hA43.get rfl)) fun a51 hA51 _ => ?_)
    refine sq_end ?_
    have hA52 := hA51.keep [(1, .pointer (some (⟨B_2, 0, none⟩ : Addr))), (4, .pointer (some (⟨B_41, 0, none⟩ : Addr)))] ⟨rfl, rfl, trivial⟩
    refine then_normal ?_
    refine wp_seq ?_
    refine wp_region_lit ?_
    refine sq (opk_val hA52 rfl (r_move (hA52.get rfl)) fun a53 hA53 _ => ?_)
    refine sq (opk_val hA53 rfl (r_loadN (cs := [.int .i64 t_1_Kind, .string (Bs t_1_Name), .string (Bs t_1_Text), Sl.v t_1_Attrs, Sl.v t_1_Kids]) Try.underlying29 rfl ti_29 (hA53.get rfl) (hB49.part 0 _ rfl)) fun a54 hA54 _ => ?_)
    have ht55 := ht33 w42 B_41 hN48  hC50
    have ht56 := ht55 hB46
    refine sq (opk_call hA54 rfl (r_call (args := #[.pointer (some (⟨B_41, 0, none⟩ : Addr)), .agg #[.int .i64 t_1_Kind, .string (Bs t_1_Name), .string (Bs t_1_Text), Sl.v t_1_Attrs, Sl.v t_1_Kids], .int .i64 (-1)]) Try.func44 (by decide) rfl (map_arr (ml_cons (hA54.get rfl) (ml_cons (hA54.get rfl) (ml_cons rfl ml_nil)))) rfl) ht56 fun a58 v64 w59 hA58 _ hn61 hz62 hK63 => ?_)
    obtain ⟨r_57, rfl, ht60⟩ := hK63
    have hB65 := hB49.kept hn61 (.head _)
    refine sq_end ?_
    have hA66 := hA58.keep [(4, .pointer (some (⟨B_41, 0, none⟩ : Addr)))] ⟨rfl, trivial⟩
    refine then_normal ?_
    refine wp_seq ?_
    refine wp_region_lit ?_
    refine sq (opk_val hA66 rfl (r_move (hA66.get rfl)) fun a67 hA67 _ => ?_)
    refine sq (opk_val hA67 rfl (r_assign (hA67.get rfl)) fun a68 hA68 _ => ?_)
    refine sq (opk_val hA68 rfl (r_assign rfl) fun a69 hA69 _ => ?_)
    refine sq_end ?_
    have hA70 := hA69.keep [(2, .pointer (some (⟨B_41, 0, none⟩ : Addr))), (3, .int .i64 0)] ⟨rfl, rfl, trivial⟩
    refine then_normal ?_
    refine wp_ret ?_
    exact res_all (vs := [.pointer (some (⟨B_41, 0, none⟩ : Addr)), .int .i64 0]) rfl hA70 ⟨res_of_tmp hA70 rfl, res_of_tmp hA70 rfl, trivial⟩ ht60

/-- The condition of (*topiary/dom.Dom).Insert. -/
def dom_Dom_Insert.vc (d_1 : Addr) (id_2 : Int) (parent_3 : Int) (at_4 : Int) (n_5_Kind : Int) (n_5_Name : Str) (n_5_Text : Str) (n_5_Attrs : Sl) (n_5_Kids : Sl) (R : Value → World → Prop) (w : World) : Prop :=
∀ (w7 : World) (B_6 : Nat), New w B_6 w7 → Chg [] w w7 →
CallK Try.prog 45 #[.pointer (some d_1), .int .i64 parent_3] w7 [B_6] (fun v w21 => ∃ (r_19 : Option Addr), v = .pointer r_19 ∧
CallK Try.prog 23 #[.pointer (some d_1), .int .i64 id_2] w21 [B_6] (fun v w34 => ∃ (r_32 : Bool), v = .bool r_32 ∧
∃ J_95 : Bool → World → Prop,
(((((r_32 = true) ∨ (id_2 < 1)) ∨ (1048576 < id_2)) →
J_95 ((r_32 || (decide (id_2 < 1))) || (decide (1048576 < id_2))) w34) ∧
((((r_32 = false) ∧ (¬ (id_2 < 1))) ∧ (¬ (1048576 < id_2))) →
∀ (w114 : World), Chg [] w34 w114 →
∀ (B_113 : Nat) (_ : w34.heap.size ≤ B_113) (_ : (((¬ (0 < (n_5_Kids.n : Int))) ∧ (¬ (0 < (n_5_Attrs.n : Int))))) → Box w114 B_113 29 [.int .i64 n_5_Kind, .string (Bs n_5_Name), .string (Bs n_5_Text), Sl.v n_5_Attrs, Sl.v n_5_Kids]),
∃ (r_128 : Bool), ((((¬ (0 < (n_5_Kids.n : Int))) ∧ (¬ (0 < (n_5_Attrs.n : Int))))) → Calls Try.prog 31 #[.agg #[.int .i64 1, .string (Bs ([] : Str)), .string (Bs ([] : Str)), Sl.v Sl.nil, Sl.v (Sl.mk (some ⟨B_113, 0, none⟩) 1 1)]] w114 (Ret fun v w' => Ext w114 w' ∧ v = .bool r_128)) ∧
(∀ w130 : World, Ext w114 w130 →
J_95 (((decide (0 < (n_5_Kids.n : Int))) || (decide (0 < (n_5_Attrs.n : Int)))) || (!r_128)) w130))) ∧
(∀ (x_93 : Bool) (w94 : World), J_95 x_93 w94 →
((x_93 = true) →
R (.int .i64 1) w94) ∧
((x_93 = false) →
∃ (x_153 : Sl), (w94.cell? (d_1.add 0) = some (Sl.v x_153)) ∧
((300 ≤ (x_153.n : Int)) →
R (.int .i64 2) w94) ∧
((¬ (300 ≤ (x_153.n : Int))) →
(((Option.isNone r_19) = true) →
R (.int .i64 3) w94) ∧
(((Option.isNone r_19) = false) →
CallK Try.prog 46 #[.pointer r_19, .int .i64 n_5_Kind] w94 [B_6] (fun v w177 => ∃ (r_175 : Bool), v = .bool r_175 ∧
((r_175 = false) →
R (.int .i64 4) w177) ∧
((r_175 = true) →
∃ p_197 : Addr, (((¬ (at_4 < 0))) → r_19 = some p_197) ∧
∃ (x_202 : Sl), (((¬ (at_4 < 0))) → w177.cell? (p_197.add 7) = some (Sl.v x_202)) ∧
(((at_4 < 0) ∨ ((x_202.n : Int) < at_4)) →
R (.int .i64 5) w177) ∧
(((¬ (at_4 < 0)) ∧ (¬ ((x_202.n : Int) < at_4))) →
CallK Try.prog 47 #[.pointer (some d_1), .int .i64 parent_3] w177 [B_6] (fun v w218 => ∃ (r_216 : Int), v = .int .i64 r_216 ∧
((60 ≤ r_216) →
R (.int .i64 2) w218) ∧
((¬ (60 ≤ r_216)) →
CallK Try.prog 48 #[.pointer (some d_1), .int .i64 id_2, .int .i64 parent_3, .agg #[.int .i64 n_5_Kind, .string (Bs n_5_Name), .string (Bs n_5_Text), Sl.v n_5_Attrs, Sl.v n_5_Kids]] w218 [B_6] (fun v w237 => v = .tuple #[] ∧
CallK Try.prog 45 #[.pointer (some d_1), .int .i64 parent_3] w237 [] (fun v w249 => ∃ (r_247 : Option Addr), v = .pointer r_247 ∧
∃ p_260 : Addr, (r_247 = some p_260) ∧
∃ (x_265 : Sl), (w249.cell? (p_260.add 7) = some (Sl.v x_265)) ∧
∀ (w271 : World) (B_270 : Nat), New w249 B_270 w271 → Chg [] w249 w271 →
∀ (_ : Box w271 B_270 3 [.int .i64 id_2]),
CallK Try.prog 49 #[Sl.v x_265, .int .i64 at_4, Sl.v (Sl.mk (some ⟨B_270, 0, none⟩) 1 1)] w271 [] (fun v w282 => ∃ (r_280 : Sl), v = Sl.v r_280 ∧
∃ p_289 : Addr, (r_247 = some p_289) ∧
∃ (B_297 o_298 : Nat) (T_299 : TypeId) (cs_300 : List Value), (p_289.add 7) = ⟨B_297, o_298, none⟩ ∧ Box w282 B_297 T_299 cs_300 ∧ o_298 + 1 ≤ cs_300.length ∧ (∀ b ∈ [], b ≠ B_297) ∧
(∀ w293 : World, Chg [B_297] w282 w293 → Box w293 B_297 T_299 (putAt cs_300 o_298 [Sl.v r_280]) →
R (.int .i64 0) w293)))))))))))))))
set_option maxHeartbeats 1000000 in
set_option maxRecDepth 10000 in
theorem dom_Dom_Insert.ok (d_1 : Addr) (id_2 : Int) (parent_3 : Int) (at_4 : Int) (n_5_Kind : Int) (n_5_Name : Str) (n_5_Text : Str) (n_5_Attrs : Sl) (n_5_Kids : Sl) {R : Value → World → Prop} {w : World} (ht0 : dom_Dom_Insert.vc d_1 id_2 parent_3 at_4 n_5_Kind n_5_Name n_5_Text n_5_Attrs n_5_Kids R w) : Calls Try.prog 14 #[.pointer (some d_1), .int .i64 id_2, .int .i64 parent_3, .int .i64 at_4, .agg #[.int .i64 n_5_Kind, .string (Bs n_5_Name), .string (Bs n_5_Text), Sl.v n_5_Attrs, Sl.v n_5_Kids]] w (Ret R) := by
  refine enter [.pointer (some d_1), .int .i64 id_2, .int .i64 parent_3, .int .i64 at_4, .agg #[.int .i64 n_5_Kind, .string (Bs n_5_Name), .string (Bs n_5_Text), Sl.v n_5_Attrs, Sl.v n_5_Kids]] Try.func14 rfl Try.ntmps14 rfl ?_
  intro a0 hA0
  unfold dom_Dom_Insert.vc at ht0
  refine wp_seq ?_
  refine wp_region_lit ?_
  refine sq (opk_new (fun B => .pointer (some ⟨B, 0, none⟩)) hA0 rfl (r_box (cs := [.int .i64 n_5_Kind, .string (Bs n_5_Name), .string (Bs n_5_Text), Sl.v n_5_Attrs, Sl.v n_5_Kids]) (hA0.get rfl) rfl) fun a8 w7 B_6 hE9 hN10 hB11 hA8 _ => ?_)
  have hN12 : New w B_6 w7 := hN10
  have hC13 : Chg [] w w7 := hE9
  refine sq (opk_val hA8 rfl (r_assign rfl) fun a14 hA14 _ => ?_)
  refine sq_end ?_
  have hA15 := hA14.keep [(0, .pointer (some d_1)), (1, .int .i64 id_2), (2, .int .i64 parent_3), (3, .int .i64 at_4), (9, .pointer (some (⟨B_6, 0, none⟩ : Addr)))] ⟨rfl, rfl, rfl, rfl, rfl, trivial⟩
  refine then_normal ?_
  refine wp_seq ?_
  refine wp_region_lit ?_
  refine sq (opk_val hA15 rfl (r_move (hA15.get rfl)) fun a16 hA16 _ => ?_)
  refine sq (opk_val hA16 rfl (r_move (hA16.get rfl)) fun a17 hA17 _ => ?_)
  have ht18 := ht0 w7 B_6 hN12  hC13
  refine sq (opk_call hA17 rfl (r_call (args := #[.pointer (some d_1), .int .i64 parent_3]) Try.func45 (by decide) rfl (map_arr (ml_cons (hA17.get rfl) (ml_cons (hA17.get rfl) ml_nil))) rfl) ht18 fun a20 v26 w21 hA20 _ hn23 hz24 hK25 => ?_)
  obtain ⟨r_19, rfl, ht22⟩ := hK25
  have hB27 := hB11.kept hn23 (.head _)
  refine sq (opk_val hA20 rfl (r_assign (hA20.get rfl)) fun a28 hA28 _ => ?_)
  refine sq_end ?_
  have hA29 := hA28.keep [(0, .pointer (some d_1)), (1, .int .i64 id_2), (2, .int .i64 parent_3), (3, .int .i64 at_4), (9, .pointer (some (⟨B_6, 0, none⟩ : Addr))), (11, .pointer r_19)] ⟨rfl, rfl, rfl, rfl, rfl, rfl, trivial⟩
  refine then_normal ?_
  refine wp_seq ?_
  refine wp_block ?_
  refine wp_seq ?_
  refine wp_seq ?_
  refine wp_region_lit ?_
  refine sq (opk_val hA29 rfl (r_move (hA29.get rfl)) fun a30 hA30 _ => ?_)
  refine sq (opk_val hA30 rfl (r_move (hA30.get rfl)) fun a31 hA31 _ => ?_)
  refine sq (opk_call hA31 rfl (r_call (args := #[.pointer (some d_1), .int .i64 id_2]) Try.func23 (by decide) rfl (map_arr (ml_cons (hA31.get rfl) (ml_cons (hA31.get rfl) ml_nil))) rfl) ht22 fun a33 v39 w34 hA33 _ hn36 hz37 hK38 => ?_)
  obtain ⟨r_32, rfl, ht35⟩ := hK38
  have hB40 := hB27.kept hn36 (.head _)
  refine sq (opk_val hA33 rfl (r_move (hA33.get rfl)) fun a41 hA41 _ => ?_)
  refine sq (opk_gval hA41 rfl rfl (g := true) (e := r_32) rfl (fun hg => r_move (hA41.get rfl)) fun a42 hA42 _ => ?_)
  refine sq (opk_gval hA42 rfl rfl (g := true) (e := r_32) rfl (fun hg => r_lss (cv_get (hA42.get rfl) hg) rfl) fun a43 hA43 _ => ?_)
  refine sq (opk_val hA43 rfl (r_pick_or (g := (true && (r_32 == false))) (hA43.get rfl) (hA43.get rfl) (fun he => g_mkf rfl he)) fun a44 hA44 _ => ?_)
  refine sq (opk_val hA44 rfl (r_move (hA44.get rfl)) fun a45 hA45 _ => ?_)
  refine sq (opk_gval hA45 rfl rfl (g := true) (e := (r_32 || (decide (id_2 < 1)))) rfl (fun hg => r_move (hA45.get rfl)) fun a46 hA46 _ => ?_)
  refine sq (opk_gval hA46 rfl rfl (g := true) (e := (r_32 || (decide (id_2 < 1)))) rfl (fun hg => r_gtr (cv_get (hA46.get rfl) hg) rfl) fun a47 hA47 _ => ?_)
  refine sq (opk_val hA47 rfl (r_pick_or (g := (true && ((r_32 || (decide (id_2 < 1))) == false))) (hA47.get rfl) (hA47.get rfl) (fun he => g_mkf rfl he)) fun a48 hA48 _ => ?_)
  refine sq (opk_val hA48 rfl (r_assign (hA48.get rfl)) fun a49 hA49 _ => ?_)
  refine sq_end ?_
  have hA50 := hA49.keep [(0, .pointer (some d_1)), (1, .int .i64 id_2), (2, .int .i64 parent_3), (3, .int .i64 at_4), (9, .pointer (some (⟨B_6, 0, none⟩ : Addr))), (11, .pointer r_19), (15, .bool ((r_32 || (decide (id_2 < 1))) || (decide (1048576 < id_2))))] ⟨rfl, rfl, rfl, rfl, rfl, rfl, rfl, trivial⟩
  refine then_normal ?_
  obtain ⟨J_95, ht96, hr97⟩ := ht35
  refine wp_meet (fun a w => ∃ x_93 : Bool, Ag 96 a [(0, .pointer (some d_1)), (1, .int .i64 id_2), (2, .int .i64 parent_3), (3, .int .i64 at_4), (9, .pointer (some (⟨B_6, 0, none⟩ : Addr))), (11, .pointer r_19), (15, .bool x_93)] ∧ Box w B_6 29 [.int .i64 n_5_Kind, .string (Bs n_5_Name), .string (Bs n_5_Text), Sl.v n_5_Attrs, Sl.v n_5_Kids] ∧ J_95 x_93 w) ?_ ?_
  · refine wp_cond_split (hA50.get rfl) (fun hc => ?_) (fun hc => ?_)
    · have ht98 := ht96.1 ((b_or_t hc).imp (fun h => ((b_or_t h).imp (fun h => h) (fun h => (of_decide_eq_true h)))) (fun h => (of_decide_eq_true h)))
      clear hc
      refine wp_skip ?_
      have hA100 := hA50.keep [(0, .pointer (some d_1)), (1, .int .i64 id_2), (2, .int .i64 parent_3), (3, .int .i64 at_4), (9, .pointer (some (⟨B_6, 0, none⟩ : Addr))), (11, .pointer r_19), (15, .bool ((r_32 || (decide (id_2 < 1))) || (decide (1048576 < id_2))))] ⟨rfl, rfl, rfl, rfl, rfl, rfl, rfl, trivial⟩
      exact then_normal ⟨((r_32 || (decide (id_2 < 1))) || (decide (1048576 < id_2))), hA100, hB40, ht98⟩
    · have ht99 := ht96.2 ⟨⟨(b_or_f (b_or_f hc).1).1, (of_decide_eq_false (b_or_f (b_or_f hc).1).2)⟩, (of_decide_eq_false (b_or_f hc).2)⟩
      clear hc
      refine wp_region_lit ?_
      refine sq (opk_val hA50 rfl (r_fieldAddr (hA50.get rfl) Try.underlying29 rfl ti_27 (by decide)) fun a101 hA101 _ => ?_)
      refine sq (opk_val hA101 rfl (r_load1 Try.underlying27 rfl (hA101.get rfl) (hB40.cell 4 _ rfl)) fun a102 hA102 _ => ?_)
      refine sq (opk_val hA102 rfl (r_len (hA102.get rfl) Try.underlying27) fun a103 hA103 _ => ?_)
      refine sq (opk_val hA103 rfl (r_gtr (hA103.get rfl) rfl) fun a104 hA104 _ => ?_)
      refine sq (opk_val hA104 rfl (r_move (hA104.get rfl)) fun a105 hA105 _ => ?_)
      refine sq (opk_gval hA105 rfl rfl (g := true) (e := (decide (0 < (n_5_Kids.n : Int)))) rfl (fun hg => r_fieldAddr (hA105.get rfl) Try.underlying29 rfl ti_26 (by decide)) fun a106 hA106 _ => ?_)
      refine sq (opk_gval hA106 rfl rfl (g := true) (e := (decide (0 < (n_5_Kids.n : Int)))) rfl (fun hg => r_load1 Try.underlying26 rfl (cv_get (hA106.get rfl) hg) (hB40.cell 3 _ rfl)) fun a107 hA107 _ => ?_)
      refine sq (opk_gval hA107 rfl rfl (g := true) (e := (decide (0 < (n_5_Kids.n : Int)))) rfl (fun hg => r_len (cv_get (hA107.get rfl) hg) Try.underlying26) fun a108 hA108 _ => ?_)
      refine sq (opk_gval hA108 rfl rfl (g := true) (e := (decide (0 < (n_5_Kids.n : Int)))) rfl (fun hg => r_gtr (cv_get (hA108.get rfl) hg) rfl) fun a109 hA109 _ => ?_)
      refine sq (opk_val hA109 rfl (r_pick_or (g := (true && ((decide (0 < (n_5_Kids.n : Int))) == false))) (hA109.get rfl) (hA109.get rfl) (fun he => g_mkf rfl he)) fun a110 hA110 _ => ?_)
      refine sq (opk_val hA110 rfl (r_move (hA110.get rfl)) fun a111 hA111 _ => ?_)
      refine sq (opk_gval hA111 rfl rfl (g := true) (e := ((decide (0 < (n_5_Kids.n : Int))) || (decide (0 < (n_5_Attrs.n : Int))))) rfl (fun hg => r_loadN (cs := [.int .i64 n_5_Kind, .string (Bs n_5_Name), .string (Bs n_5_Text), Sl.v n_5_Attrs, Sl.v n_5_Kids]) Try.underlying29 rfl ti_29 (hA111.get rfl) (hB40.part 0 _ rfl)) fun a112 hA112 _ => ?_)
      refine sq (opk_gnew2 (fun B => .slice (some ⟨B, 0, none⟩) 1 1) hA112 rfl rfl (g := true) (e := ((decide (0 < (n_5_Kids.n : Int))) || (decide (0 < (n_5_Attrs.n : Int))))) rfl (fun hg => r_buildSlice (vs := #[(0, .agg #[.int .i64 n_5_Kind, .string (Bs n_5_Name), .string (Bs n_5_Text), Sl.v n_5_Attrs, Sl.v n_5_Kids])]) (cs := [.int .i64 n_5_Kind, .string (Bs n_5_Name), .string (Bs n_5_Text), Sl.v n_5_Attrs, Sl.v n_5_Kids]) (map_arr2 (ml2_cons (cv_get (hA112.get rfl) hg) (ml2_nil))) Try.underlying27 ti_29 rfl rfl (by kernel_rfl)) fun a115 w114 B_113 hE116 hge119 hB118 hA115 _ => ?_)
      have hB120 := fun hg => (hB118 hg).2
      have hne121 : B_6 ≠ B_113 := Nat.ne_of_lt (Nat.lt_of_lt_of_le hB40.lt hge119)
      have hge122 : w34.heap.size ≤ B_113 := hge119
      have hB123 := hB40.ext hE116
      have hC124 : Chg [] w34 w114 := hE116
      refine sq (opk_gval hA115 rfl rfl (g := true) (e := ((decide (0 < (n_5_Kids.n : Int))) || (decide (0 < (n_5_Attrs.n : Int))))) rfl (fun hg => r_build (vs := #[(0, .int .i64 1), (4, Sl.v (Sl.mk (some ⟨B_113, 0, none⟩) 1 1))]) (cells := #[.int .i64 1, .string (Bs ([] : Str)), .string (Bs ([] : Str)), Sl.v Sl.nil, Sl.v (Sl.mk (some ⟨B_113, 0, none⟩) 1 1)]) (map_arr2 (ml2_cons rfl (ml2_cons (cv_get (hA115.get rfl) hg) (ml2_nil)))) ti_29 Try.underlying29 pl_29 (by kernel_rfl)) fun a125 hA125 _ => ?_)
      have ht126 := ht99 w114    hC124
      have ht127 := ht126 B_113 hge122 (fun hp => hB120 ((g_mkf rfl (b_or_mkf ⟨(decide_eq_false hp.1), (decide_eq_false hp.2)⟩))))
      obtain ⟨r_128, hc132, ht131⟩ := ht127
      refine sq (opk_gcall hA125 rfl rfl (g := true) (e := ((decide (0 < (n_5_Kids.n : Int))) || (decide (0 < (n_5_Attrs.n : Int))))) rfl (fun hg => r_call (args := #[.agg #[.int .i64 1, .string (Bs ([] : Str)), .string (Bs ([] : Str)), Sl.v Sl.nil, Sl.v (Sl.mk (some ⟨B_113, 0, none⟩) 1 1)]]) Try.func31 (by decide) rfl (map_arr (ml_cons (cv_get (hA125.get rfl) hg) ml_nil)) rfl) (fun hg => hc132 ⟨(of_decide_eq_false (b_or_f (g_f hg)).1), (of_decide_eq_false (b_or_f (g_f hg)).2)⟩) fun a129 w130 hA129 _ hE133 => ?_)
      have hB134 := hB123.ext hE133
      have hC135 : Chg [] w114 w130 := hE133
      have ht136 := ht131 w130 hE133
      refine sq (opk_gval hA129 rfl rfl (g := true) (e := ((decide (0 < (n_5_Kids.n : Int))) || (decide (0 < (n_5_Attrs.n : Int))))) rfl (fun hg => r_not (cv_get (hA129.get rfl) hg)) fun a137 hA137 _ => ?_)
      refine sq (opk_val hA137 rfl (r_pick_or (g := (true && (((decide (0 < (n_5_Kids.n : Int))) || (decide (0 < (n_5_Attrs.n : Int)))) == false))) (hA137.get rfl) (hA137.get rfl) (fun he => g_mkf rfl he)) fun a138 hA138 _ => ?_)
      refine sq (opk_val hA138 rfl (r_assign (hA138.get rfl)) fun a139 hA139 _ => ?_)
      refine sq_end ?_
      have hA140 := hA139.keep [(0, .pointer (some d_1)), (1, .int .i64 id_2), (2, .int .i64 parent_3), (3, .int .i64 at_4), (9, .pointer (some (⟨B_6, 0, none⟩ : Addr))), (11, .pointer r_19), (15, .bool (((decide (0 < (n_5_Kids.n : Int))) || (decide (0 < (n_5_Attrs.n : Int)))) || (!r_128)))] ⟨rfl, rfl, rfl, rfl, rfl, rfl, rfl, trivial⟩
      have hA141 := hA140.keep [(0, .pointer (some d_1)), (1, .int .i64 id_2), (2, .int .i64 parent_3), (3, .int .i64 at_4), (9, .pointer (some (⟨B_6, 0, none⟩ : Addr))), (11, .pointer r_19), (15, .bool (((decide (0 < (n_5_Kids.n : Int))) || (decide (0 < (n_5_Attrs.n : Int)))) || (!r_128)))] ⟨rfl, rfl, rfl, rfl, rfl, rfl, rfl, trivial⟩
      exact then_normal ⟨(((decide (0 < (n_5_Kids.n : Int))) || (decide (0 < (n_5_Attrs.n : Int)))) || (!r_128)), hA141, hB134, ht136⟩
  · intro a142 w94 hm
    obtain ⟨x_93, hA142, hB143, hJ310⟩ := hm
    have ht144 := hr97 x_93 w94 hJ310
    refine then_normal ?_
    refine wp_cond_split (hA142.get rfl) (fun hc => ?_) (fun hc => ?_)
    · have ht145 := ht144.1 hc
      clear hc
      refine wp_seq ?_
      refine wp_region_lit ?_
      refine sq (opk_val hA142 rfl (r_assign rfl) fun a147 hA147 _ => ?_)
      refine sq_end ?_
      have hA148 := hA147.keep [(10, .int .i64 1)] ⟨rfl, trivial⟩
      refine then_normal ?_
      refine wp_ret ?_
      refine block_ret ?_
      refine then_ret ?_
      exact res_all (vs := [.int .i64 1]) rfl hA148 ⟨res_of_tmp hA148 rfl, trivial⟩ ht145
    · have ht146 := ht144.2 hc
      clear hc
      refine wp_seq ?_
      refine wp_region_lit ?_
      refine sq (opk_val hA142 rfl (r_move (hA142.get rfl)) fun a149 hA149 _ => ?_)
      refine sq (opk_val hA149 rfl (r_nilCheck (hA149.get rfl)) fun a150 hA150 _ => ?_)
      refine sq (opk_val hA150 rfl (r_fieldAddr (hA150.get rfl) Try.underlying71 rfl ti_69 (by decide)) fun a151 hA151 _ => ?_)
      obtain ⟨x_153, hx154, ht155⟩ := ht146
      refine sq (opk_val hA151 rfl (r_load1 Try.underlying69 rfl (hA151.get rfl) hx154) fun a152 hA152 _ => ?_)
      refine sq (opk_val hA152 rfl (r_len (hA152.get rfl) Try.underlying69) fun a156 hA156 _ => ?_)
      refine sq (opk_val hA156 rfl (r_geq (hA156.get rfl) rfl) fun a157 hA157 _ => ?_)
      refine sq (opk_val hA157 rfl (r_assign (hA157.get rfl)) fun a158 hA158 _ => ?_)
      refine sq_end ?_
      have hA159 := hA158.keep [(0, .pointer (some d_1)), (1, .int .i64 id_2), (2, .int .i64 parent_3), (3, .int .i64 at_4), (9, .pointer (some (⟨B_6, 0, none⟩ : Addr))), (11, .pointer r_19), (44, .bool (decide (300 ≤ (x_153.n : Int))))] ⟨rfl, rfl, rfl, rfl, rfl, rfl, rfl, trivial⟩
      refine then_normal ?_
      refine wp_cond_split (hA159.get rfl) (fun hc => ?_) (fun hc => ?_)
      · have ht160 := ht155.1 (of_decide_eq_true hc)
        clear hc
        refine wp_seq ?_
        refine wp_region_lit ?_
        refine sq (opk_val hA159 rfl (r_assign rfl) fun a162 hA162 _ => ?_)
        refine sq_end ?_
        have hA163 := hA162.keep [(10, .int .i64 2)] ⟨rfl, trivial⟩
        refine then_normal ?_
        refine wp_ret ?_
        refine block_ret ?_
        refine then_ret ?_
        exact res_all (vs := [.int .i64 2]) rfl hA163 ⟨res_of_tmp hA163 rfl, trivial⟩ ht160
      · have ht161 := ht155.2 (of_decide_eq_false hc)
        clear hc
        refine wp_seq ?_
        refine wp_region_lit ?_
        refine sq (opk_val hA159 rfl (r_move (hA159.get rfl)) fun a164 hA164 _ => ?_)
        refine sq (opk_val hA164 rfl (r_pnil (o := r_19) (hA164.get rfl) rfl Try.underlying73) fun a165 hA165 _ => ?_)
        refine sq (opk_val hA165 rfl (r_assign (hA165.get rfl)) fun a166 hA166 _ => ?_)
        refine sq_end ?_
        have hA167 := hA166.keep [(0, .pointer (some d_1)), (1, .int .i64 id_2), (2, .int .i64 parent_3), (3, .int .i64 at_4), (9, .pointer (some (⟨B_6, 0, none⟩ : Addr))), (11, .pointer r_19), (51, .bool (Option.isNone r_19))] ⟨rfl, rfl, rfl, rfl, rfl, rfl, rfl, trivial⟩
        refine then_normal ?_
        refine wp_cond_split (hA167.get rfl) (fun hc => ?_) (fun hc => ?_)
        · have ht168 := ht161.1 hc
          clear hc
          refine wp_seq ?_
          refine wp_region_lit ?_
          refine sq (opk_val hA167 rfl (r_assign rfl) fun a170 hA170 _ => ?_)
          refine sq_end ?_
          have hA171 := hA170.keep [(10, .int .i64 3)] ⟨rfl, trivial⟩
          refine then_normal ?_
          refine wp_ret ?_
          refine block_ret ?_
          refine then_ret ?_
          exact res_all (vs := [.int .i64 3]) rfl hA171 ⟨res_of_tmp hA171 rfl, trivial⟩ ht168
        · have ht169 := ht161.2 hc
          clear hc
          refine wp_seq ?_
          refine wp_region_lit ?_
          refine sq (opk_val hA167 rfl (r_move (hA167.get rfl)) fun a172 hA172 _ => ?_)
          refine sq (opk_val hA172 rfl (r_fieldAddr (hA172.get rfl) Try.underlying29 rfl ti_3 (by decide)) fun a173 hA173 _ => ?_)
          refine sq (opk_val hA173 rfl (r_load1 Try.underlying3 rfl (hA173.get rfl) (hB143.cell 0 _ rfl)) fun a174 hA174 _ => ?_)
          refine sq (opk_call hA174 rfl (r_call (args := #[.pointer r_19, .int .i64 n_5_Kind]) Try.func46 (by decide) rfl (map_arr (ml_cons (hA174.get rfl) (ml_cons (hA174.get rfl) ml_nil))) rfl) ht169 fun a176 v182 w177 hA176 _ hn179 hz180 hK181 => ?_)
          obtain ⟨r_175, rfl, ht178⟩ := hK181
          have hB183 := hB143.kept hn179 (.head _)
          refine sq (opk_val hA176 rfl (r_not (hA176.get rfl)) fun a184 hA184 _ => ?_)
          refine sq (opk_val hA184 rfl (r_assign (hA184.get rfl)) fun a185 hA185 _ => ?_)
          refine sq_end ?_
          have hA186 := hA185.keep [(0, .pointer (some d_1)), (1, .int .i64 id_2), (2, .int .i64 parent_3), (3, .int .i64 at_4), (9, .pointer (some (⟨B_6, 0, none⟩ : Addr))), (11, .pointer r_19), (54, .bool (!r_175))] ⟨rfl, rfl, rfl, rfl, rfl, rfl, rfl, trivial⟩
          refine then_normal ?_
          refine wp_cond_split (hA186.get rfl) (fun hc => ?_) (fun hc => ?_)
          · have ht187 := ht178.1 (b_not_t hc)
            clear hc
            refine wp_seq ?_
            refine wp_region_lit ?_
            refine sq (opk_val hA186 rfl (r_assign rfl) fun a189 hA189 _ => ?_)
            refine sq_end ?_
            have hA190 := hA189.keep [(10, .int .i64 4)] ⟨rfl, trivial⟩
            refine then_normal ?_
            refine wp_ret ?_
            refine block_ret ?_
            refine then_ret ?_
            exact res_all (vs := [.int .i64 4]) rfl hA190 ⟨res_of_tmp hA190 rfl, trivial⟩ ht187
          · have ht188 := ht178.2 (b_not_f hc)
            clear hc
            refine wp_seq ?_
            refine wp_region_lit ?_
            refine sq (opk_val hA186 rfl (r_move (hA186.get rfl)) fun a191 hA191 _ => ?_)
            refine sq (opk_val hA191 rfl (r_lss (hA191.get rfl) rfl) fun a192 hA192 _ => ?_)
            refine sq (opk_val hA192 rfl (r_move (hA192.get rfl)) fun a193 hA193 _ => ?_)
            refine sq (opk_gval hA193 rfl rfl (g := true) (e := (decide (at_4 < 0))) rfl (fun hg => r_move (hA193.get rfl)) fun a194 hA194 _ => ?_)
            refine sq (opk_gval hA194 rfl rfl (g := true) (e := (decide (at_4 < 0))) rfl (fun hg => r_move (hA194.get rfl)) fun a195 hA195 _ => ?_)
            obtain ⟨p_197, hp198, ht199⟩ := ht188
            refine sq (opk_gval hA195 rfl rfl (g := true) (e := (decide (at_4 < 0))) rfl (fun hg => r_nilCheckP (((cv_get (hA195.get rfl) hg)).trans (congrArg Value.pointer (hp198 (of_decide_eq_false (g_f hg)))))) fun a196 hA196 _ => ?_)
            refine sq (opk_gval hA196 rfl rfl (g := true) (e := (decide (at_4 < 0))) rfl (fun hg => r_fieldAddr (cv_get (hA196.get rfl) hg) Try.underlying76 rfl ti_36 (by decide)) fun a200 hA200 _ => ?_)
            obtain ⟨x_202, hx203, ht204⟩ := ht199
            refine sq (opk_gval hA200 rfl rfl (g := true) (e := (decide (at_4 < 0))) rfl (fun hg => r_load1 Try.underlying36 rfl (cv_get (hA200.get rfl) hg) (hx203 (of_decide_eq_false (g_f hg)))) fun a201 hA201 _ => ?_)
            refine sq (opk_gval hA201 rfl rfl (g := true) (e := (decide (at_4 < 0))) rfl (fun hg => r_len (cv_get (hA201.get rfl) hg) Try.underlying36) fun a205 hA205 _ => ?_)
            refine sq (opk_gval hA205 rfl rfl (g := true) (e := (decide (at_4 < 0))) rfl (fun hg => r_gtr (cv_get (hA205.get rfl) hg) (cv_get (hA205.get rfl) hg)) fun a206 hA206 _ => ?_)
            refine sq (opk_val hA206 rfl (r_pick_or (g := (true && ((decide (at_4 < 0)) == false))) (hA206.get rfl) (hA206.get rfl) (fun he => g_mkf rfl he)) fun a207 hA207 _ => ?_)
            refine sq (opk_val hA207 rfl (r_assign (hA207.get rfl)) fun a208 hA208 _ => ?_)
            refine sq_end ?_
            have hA209 := hA208.keep [(0, .pointer (some d_1)), (1, .int .i64 id_2), (2, .int .i64 parent_3), (3, .int .i64 at_4), (9, .pointer (some (⟨B_6, 0, none⟩ : Addr))), (60, .bool ((decide (at_4 < 0)) || (decide ((x_202.n : Int) < at_4))))] ⟨rfl, rfl, rfl, rfl, rfl, rfl, trivial⟩
            refine then_normal ?_
            refine wp_cond_split (hA209.get rfl) (fun hc => ?_) (fun hc => ?_)
            · have ht210 := ht204.1 ((b_or_t hc).imp (fun h => (of_decide_eq_true h)) (fun h => (of_decide_eq_true h)))
              clear hc
              refine wp_seq ?_
              refine wp_region_lit ?_
              refine sq (opk_val hA209 rfl (r_assign rfl) fun a212 hA212 _ => ?_)
              refine sq_end ?_
              have hA213 := hA212.keep [(10, .int .i64 5)] ⟨rfl, trivial⟩
              refine then_normal ?_
              refine wp_ret ?_
              refine block_ret ?_
              refine then_ret ?_
              exact res_all (vs := [.int .i64 5]) rfl hA213 ⟨res_of_tmp hA213 rfl, trivial⟩ ht210
            · have ht211 := ht204.2 ⟨(of_decide_eq_false (b_or_f hc).1), (of_decide_eq_false (b_or_f hc).2)⟩
              clear hc
              refine wp_seq ?_
              refine wp_region_lit ?_
              refine sq (opk_val hA209 rfl (r_move (hA209.get rfl)) fun a214 hA214 _ => ?_)
              refine sq (opk_val hA214 rfl (r_move (hA214.get rfl)) fun a215 hA215 _ => ?_)
              refine sq (opk_call hA215 rfl (r_call (args := #[.pointer (some d_1), .int .i64 parent_3]) Try.func47 (by decide) rfl (map_arr (ml_cons (hA215.get rfl) (ml_cons (hA215.get rfl) ml_nil))) rfl) ht211 fun a217 v223 w218 hA217 _ hn220 hz221 hK222 => ?_)
              obtain ⟨r_216, rfl, ht219⟩ := hK222
              have hB224 := hB183.kept hn220 (.head _)
              refine sq (opk_val hA217 rfl (r_geq (hA217.get rfl) rfl) fun a225 hA225 _ => ?_)
              refine sq (opk_val hA225 rfl (r_assign (hA225.get rfl)) fun a226 hA226 _ => ?_)
              refine sq_end ?_
              have hA227 := hA226.keep [(0, .pointer (some d_1)), (1, .int .i64 id_2), (2, .int .i64 parent_3), (3, .int .i64 at_4), (9, .pointer (some (⟨B_6, 0, none⟩ : Addr))), (72, .bool (decide (60 ≤ r_216)))] ⟨rfl, rfl, rfl, rfl, rfl, rfl, trivial⟩
              refine then_normal ?_
              refine wp_cond_split (hA227.get rfl) (fun hc => ?_) (fun hc => ?_)
              · have ht228 := ht219.1 (of_decide_eq_true hc)
                clear hc
                refine wp_seq ?_
                refine wp_region_lit ?_
                refine sq (opk_val hA227 rfl (r_assign rfl) fun a230 hA230 _ => ?_)
                refine sq_end ?_
                have hA231 := hA230.keep [(10, .int .i64 2)] ⟨rfl, trivial⟩
                refine then_normal ?_
                refine wp_ret ?_
                refine block_ret ?_
                refine then_ret ?_
                exact res_all (vs := [.int .i64 2]) rfl hA231 ⟨res_of_tmp hA231 rfl, trivial⟩ ht228
              · have ht229 := ht219.2 (of_decide_eq_false hc)
                clear hc
                refine wp_skip ?_
                refine block_normal ?_
                refine then_normal ?_
                refine wp_seq ?_
                refine wp_region_lit ?_
                refine sq (opk_val hA227 rfl (r_move (hA227.get rfl)) fun a232 hA232 _ => ?_)
                refine sq (opk_val hA232 rfl (r_move (hA232.get rfl)) fun a233 hA233 _ => ?_)
                refine sq (opk_val hA233 rfl (r_move (hA233.get rfl)) fun a234 hA234 _ => ?_)
                refine sq (opk_val hA234 rfl (r_loadN (cs := [.int .i64 n_5_Kind, .string (Bs n_5_Name), .string (Bs n_5_Text), Sl.v n_5_Attrs, Sl.v n_5_Kids]) Try.underlying29 rfl ti_29 (hA234.get rfl) (hB224.part 0 _ rfl)) fun a235 hA235 _ => ?_)
                refine sq (opk_call hA235 rfl (r_call (args := #[.pointer (some d_1), .int .i64 id_2, .int .i64 parent_3, .agg #[.int .i64 n_5_Kind, .string (Bs n_5_Name), .string (Bs n_5_Text), Sl.v n_5_Attrs, Sl.v n_5_Kids]]) Try.func48 (by decide) rfl (map_arr (ml_cons (hA235.get rfl) (ml_cons (hA235.get rfl) (ml_cons (hA235.get rfl) (ml_cons (hA235.get rfl) ml_nil))))) rfl) ht229 fun a236 v242 w237 hA236 _ hn239 hz240 hK241 => ?_)
                obtain ⟨rfl, ht238⟩ := hK241
                have hB243 := hB224.kept hn239 (.head _)
                refine sq_end ?_
                have hA244 := hA236.keep [(0, .pointer (some d_1)), (1, .int .i64 id_2), (2, .int .i64 parent_3), (3, .int .i64 at_4)] ⟨rfl, rfl, rfl, rfl, trivial⟩
                refine then_normal ?_
                refine wp_seq ?_
                refine wp_region_lit ?_
                refine sq (opk_val hA244 rfl (r_move (hA244.get rfl)) fun a245 hA245 _ => ?_)
                refine sq (opk_val hA245 rfl (r_move (hA245.get rfl)) fun a246 hA246 _ => ?_)
                refine sq (opk_call hA246 rfl (r_call (args := #[.pointer (some d_1), .int .i64 parent_3]) Try.func45 (by decide) rfl (map_arr (ml_cons (hA246.get rfl) (ml_cons (hA246.get rfl) ml_nil))) rfl) ht238 fun a248 v254 w249 hA248 _ hn251 hz252 hK253 => ?_)
                obtain ⟨r_247, rfl, ht250⟩ := hK253
                refine sq (opk_val hA248 rfl (r_assign (hA248.get rfl)) fun a255 hA255 _ => ?_)
                refine sq_end ?_
                have hA256 := hA255.keep [(1, .int .i64 id_2), (3, .int .i64 at_4), (11, .pointer r_247)] ⟨rfl, rfl, rfl, trivial⟩
                refine then_normal ?_
                refine wp_seq ?_
                refine wp_region_lit ?_
                refine sq (opk_val hA256 rfl (r_move (hA256.get rfl)) fun a257 hA257 _ => ?_)
                refine sq (opk_val hA257 rfl (r_move (hA257.get rfl)) fun a258 hA258 _ => ?_)
                obtain ⟨p_260, hp261, ht262⟩ := ht250
                refine sq (opk_val hA258 rfl (r_nilCheckP (((hA258.get rfl)).trans (congrArg Value.pointer hp261))) fun a259 hA259 _ => ?_)
                refine sq (opk_val hA259 rfl (r_fieldAddr (hA259.get rfl) Try.underlying76 rfl ti_36 (by decide)) fun a263 hA263 _ => ?_)
                obtain ⟨x_265, hx266, ht267⟩ := ht262
                refine sq (opk_val hA263 rfl (r_load1 Try.underlying36 rfl (hA263.get rfl) hx266) fun a264 hA264 _ => ?_)
                refine sq (opk_val hA264 rfl (r_move (hA264.get rfl)) fun a268 hA268 _ => ?_)
                refine sq (opk_val hA268 rfl (r_move (hA268.get rfl)) fun a269 hA269 _ => ?_)
                refine sq (opk_new (fun B => .slice (some ⟨B, 0, none⟩) 1 1) hA269 rfl (r_buildSlice (vs := #[(0, .int .i64 id_2)]) (cs := [.int .i64 id_2]) (map_arr2 (ml2_cons (hA269.get rfl) (ml2_nil))) Try.underlying36 ti_3 rfl rfl (by kernel_rfl)) fun a272 w271 B_270 hE273 hN274 hB275 hA272 _ => ?_)
                have hN276 : New w249 B_270 w271 := hN274
                have hC277 : Chg [] w249 w271 := hE273
                have ht278 := ht267 w271 B_270 hN276  hC277
                have ht279 := ht278 hB275
                refine sq (opk_call hA272 rfl (r_call (args := #[Sl.v x_265, .int .i64 at_4, Sl.v (Sl.mk (some ⟨B_270, 0, none⟩) 1 1)]) Try.func49 (by decide) rfl (map_arr (ml_cons (hA272.get rfl) (ml_cons (hA272.get rfl) (ml_cons (hA272.get rfl) ml_nil)))) rfl) ht279 fun a281 v287 w282 hA281 _ hn284 hz285 hK286 => ?_)
                obtain ⟨r_280, rfl, ht283⟩ := hK286
                obtain ⟨p_289, hp290, ht291⟩ := ht283
                refine sq (opk_val hA281 rfl (r_nilCheckP (((hA281.get rfl)).trans (congrArg Value.pointer hp290))) fun a288 hA288 _ => ?_)
                refine sq (opk_val hA288 rfl (r_fieldAddr (hA288.get rfl) Try.underlying76 rfl ti_36 (by decide)) fun a292 hA292 _ => ?_)
                obtain ⟨B_297, o_298, T_299, cs_300, he301, hb302, hl303, hx304, ht305⟩ := ht291
                refine sq (opk_store hA292 hb302 (r_store (vs := [Sl.v r_280]) (((hA292.get rfl)).trans (congrArg (fun a => Value.pointer (some a)) he301)) (hA292.get rfl) rfl ti_36 hb302 (Nat.ble_eq_true_of_le hl303) (ones_all [Sl.v r_280] rfl)) fun a294 w293 hS295 hB296 hA294 => ?_)
                have ht306 := ht305 w293 hS295 hB296
                refine sq_end ?_
                have hA307 := hA294.keep [] trivial
                refine then_normal ?_
                refine wp_seq ?_
                refine wp_region_lit ?_
                refine sq (opk_val hA307 rfl (r_assign rfl) fun a308 hA308 _ => ?_)
                refine sq_end ?_
                have hA309 := hA308.keep [(10, .int .i64 0)] ⟨rfl, trivial⟩
                refine then_normal ?_
                refine wp_ret ?_
                exact res_all (vs := [.int .i64 0]) rfl hA309 ⟨res_of_tmp hA309 rfl, trivial⟩ ht306

/-- The condition of (*topiary/dom.Dom).Set. -/
def dom_Dom_Set.vc (d_1 : Addr) (id_2 : Int) (name_3 : Str) (value_4 : Str) (R : Value → World → Prop) (w : World) : Prop :=
CallK Try.prog 45 #[.pointer (some d_1), .int .i64 id_2] w [] (fun v w11 => ∃ (r_9 : Option Addr), v = .pointer r_9 ∧
(((Option.isNone r_9) = true) →
R (.int .i64 3) w11) ∧
(((Option.isNone r_9) = false) →
∃ p_29 : Addr, (r_9 = some p_29) ∧
∃ (x_35 : Int), (w11.cell? ((p_29.add 2).add 0) = some (.int .i64 x_35)) ∧
((x_35 ≠ 2) →
R (.int .i64 4) w11) ∧
((¬ (x_35 ≠ 2)) →
CallK Try.prog 50 #[.string (Bs name_3)] w11 [] (fun v w48 => ∃ (r_46 : Bool), v = .bool r_46 ∧
((r_46 = false) →
R (.int .i64 8) w48) ∧
((r_46 = true) →
CallK Try.prog 51 #[.pointer r_9, .string (Bs name_3)] w48 [] (fun v w66 => ∃ (r_0_63 : Int) (r_1_64 : Bool), v = .tuple #[.int .i64 r_0_63, .bool r_1_64] ∧
∃ p_87 : Addr, (((¬ (4096 < (value_4.length : Int))) ∧ (r_1_64 = false)) → r_9 = some p_87) ∧
∃ (x_93 : Sl), (((¬ (4096 < (value_4.length : Int))) ∧ (r_1_64 = false)) → w66.cell? ((p_87.add 2).add 3) = some (Sl.v x_93)) ∧
(((4096 < (value_4.length : Int)) ∨ ((r_1_64 = false) ∧ (12 ≤ (x_93.n : Int)))) →
R (.int .i64 2) w66) ∧
(((¬ (4096 < (value_4.length : Int))) ∧ ((r_1_64 = true) ∨ (¬ (12 ≤ (x_93.n : Int))))) →
((r_1_64 = false) →
∃ p_115 : Addr, (r_9 = some p_115) ∧
∃ (x_121 : Sl), (w66.cell? ((p_115.add 2).add 3) = some (Sl.v x_121)) ∧
∀ (w128 : World) (B_127 : Nat), New w66 B_127 w128 → Chg [] w66 w128 →
∀ (_ : Box w128 B_127 65 [.string (Bs name_3), .string (Bs ([] : Str))]),
CallK Try.prog 52 #[Sl.v x_121, .int .i64 r_0_63, Sl.v (Sl.mk (some ⟨B_127, 0, none⟩) 1 1)] w128 [] (fun v w139 => ∃ (r_137 : Sl), v = Sl.v r_137 ∧
∃ p_146 : Addr, (r_9 = some p_146) ∧
∃ (B_155 o_156 : Nat) (T_157 : TypeId) (cs_158 : List Value), ((p_146.add 2).add 3) = ⟨B_155, o_156, none⟩ ∧ Box w139 B_155 T_157 cs_158 ∧ o_156 + 1 ≤ cs_158.length ∧ (∀ b ∈ [], b ≠ B_155) ∧
(∀ w151 : World, Chg [B_155] w139 w151 → Box w151 B_155 T_157 (putAt cs_158 o_156 [Sl.v r_137]) →
∃ p_168 : Addr, (r_9 = some p_168) ∧
∃ (x_174 : Sl), (w151.cell? ((p_168.add 2).add 3) = some (Sl.v x_174)) ∧
((0 : Int) ≤ r_0_63 ∧ r_0_63 < (x_174.n : Int)) ∧ ∃ p_179 : Addr, x_174.a = some p_179 ∧
∃ (B_189 o_190 : Nat) (T_191 : TypeId) (cs_192 : List Value), ((p_179.add (r_0_63.toNat * 2)).add 1) = ⟨B_189, o_190, none⟩ ∧ Box w151 B_189 T_191 cs_192 ∧ o_190 + 1 ≤ cs_192.length ∧ (∀ b ∈ [], b ≠ B_189) ∧
(∀ w185 : World, Chg [B_189] w151 w185 → Box w185 B_189 T_191 (putAt cs_192 o_190 [.string (Bs value_4)]) →
R (.int .i64 0) w185)))) ∧
((r_1_64 = true) →
∃ p_204 : Addr, (r_9 = some p_204) ∧
∃ (x_210 : Sl), (w66.cell? ((p_204.add 2).add 3) = some (Sl.v x_210)) ∧
((0 : Int) ≤ r_0_63 ∧ r_0_63 < (x_210.n : Int)) ∧ ∃ p_215 : Addr, x_210.a = some p_215 ∧
∃ (B_225 o_226 : Nat) (T_227 : TypeId) (cs_228 : List Value), ((p_215.add (r_0_63.toNat * 2)).add 1) = ⟨B_225, o_226, none⟩ ∧ Box w66 B_225 T_227 cs_228 ∧ o_226 + 1 ≤ cs_228.length ∧ (∀ b ∈ [], b ≠ B_225) ∧
(∀ w221 : World, Chg [B_225] w66 w221 → Box w221 B_225 T_227 (putAt cs_228 o_226 [.string (Bs value_4)]) →
R (.int .i64 0) w221)))))))))
set_option maxHeartbeats 1000000 in
set_option maxRecDepth 10000 in
theorem dom_Dom_Set.ok (d_1 : Addr) (id_2 : Int) (name_3 : Str) (value_4 : Str) {R : Value → World → Prop} {w : World} (ht0 : dom_Dom_Set.vc d_1 id_2 name_3 value_4 R w) : Calls Try.prog 15 #[.pointer (some d_1), .int .i64 id_2, .string (Bs name_3), .string (Bs value_4)] w (Ret R) := by
  refine enter [.pointer (some d_1), .int .i64 id_2, .string (Bs name_3), .string (Bs value_4)] Try.func15 rfl Try.ntmps15 rfl ?_
  intro a0 hA0
  unfold dom_Dom_Set.vc at ht0
  refine wp_seq ?_
  refine wp_region_lit ?_
  refine sq (opk_val hA0 rfl (r_assign rfl) fun a5 hA5 _ => ?_)
  refine sq_end ?_
  have hA6 := hA5.keep [(0, .pointer (some d_1)), (1, .int .i64 id_2), (2, .string (Bs name_3)), (3, .string (Bs value_4))] ⟨rfl, rfl, rfl, rfl, trivial⟩
  refine then_normal ?_
  refine wp_seq ?_
  refine wp_region_lit ?_
  refine sq (opk_val hA6 rfl (r_move (hA6.get rfl)) fun a7 hA7 _ => ?_)
  refine sq (opk_val hA7 rfl (r_move (hA7.get rfl)) fun a8 hA8 _ => ?_)
  refine sq (opk_call hA8 rfl (r_call (args := #[.pointer (some d_1), .int .i64 id_2]) Try.func45 (by decide) rfl (map_arr (ml_cons (hA8.get rfl) (ml_cons (hA8.get rfl) ml_nil))) rfl) ht0 fun a10 v16 w11 hA10 _ hn13 hz14 hK15 => ?_)
  obtain ⟨r_9, rfl, ht12⟩ := hK15
  refine sq (opk_val hA10 rfl (r_assign (hA10.get rfl)) fun a17 hA17 _ => ?_)
  refine sq_end ?_
  have hA18 := hA17.keep [(2, .string (Bs name_3)), (3, .string (Bs value_4)), (9, .pointer r_9)] ⟨rfl, rfl, rfl, trivial⟩
  refine then_normal ?_
  refine wp_seq ?_
  refine wp_block ?_
  refine wp_seq ?_
  refine wp_region_lit ?_
  refine sq (opk_val hA18 rfl (r_move (hA18.get rfl)) fun a19 hA19 _ => ?_)
  refine sq (opk_val hA19 rfl (r_pnil (o := r_9) (hA19.get rfl) rfl Try.underlying73) fun a20 hA20 _ => ?_)
  refine sq (opk_val hA20 rfl (r_assign (hA20.get rfl)) fun a21 hA21 _ => ?_)
  refine sq_end ?_
  have hA22 := hA21.keep [(2, .string (Bs name_3)), (3, .string (Bs value_4)), (9, .pointer r_9), (15, .bool (Option.isNone r_9))] ⟨rfl, rfl, rfl, rfl, trivial⟩
  refine then_normal ?_
  refine wp_cond_split (hA22.get rfl) (fun hc => ?_) (fun hc => ?_)
  · have ht23 := ht12.1 hc
    clear hc
    refine wp_seq ?_
    refine wp_region_lit ?_
    refine sq (opk_val hA22 rfl (r_assign rfl) fun a25 hA25 _ => ?_)
    refine sq_end ?_
    have hA26 := hA25.keep [(8, .int .i64 3)] ⟨rfl, trivial⟩
    refine then_normal ?_
    refine wp_ret ?_
    refine block_ret ?_
    refine then_ret ?_
    exact res_all (vs := [.int .i64 3]) rfl hA26 ⟨res_of_tmp hA26 rfl, trivial⟩ ht23
  · have ht24 := ht12.2 hc
    clear hc
    refine wp_seq ?_
    refine wp_region_lit ?_
    refine sq (opk_val hA22 rfl (r_move (hA22.get rfl)) fun a27 hA27 _ => ?_)
    obtain ⟨p_29, hp30, ht31⟩ := ht24
    refine sq (opk_val hA27 rfl (r_nilCheckP (((hA27.get rfl)).trans (congrArg Value.pointer hp30))) fun a28 hA28 _ => ?_)
    refine sq (opk_val hA28 rfl (r_fieldAddr (hA28.get rfl) Try.underlying76 rfl ti_29 (by decide)) fun a32 hA32 _ => ?_)
    refine sq (opk_val hA32 rfl (r_fieldAddr (hA32.get rfl) Try.underlying29 rfl ti_3 (by decide)) fun a33 hA33 _ => ?_)
    obtain ⟨x_35, hx36, ht37⟩ := ht31
    refine sq (opk_val hA33 rfl (r_load1 Try.underlying3 rfl (hA33.get rfl) hx36) fun a34 hA34 _ => ?_)
    refine sq (opk_val hA34 rfl (r_neq (hA34.get rfl) rfl) fun a38 hA38 _ => ?_)
    refine sq (opk_val hA38 rfl (r_assign (hA38.get rfl)) fun a39 hA39 _ => ?_)
    refine sq_end ?_
    have hA40 := hA39.keep [(2, .string (Bs name_3)), (3, .string (Bs value_4)), (9, .pointer r_9), (18, .bool (decide (x_35 ≠ 2)))] ⟨rfl, rfl, rfl, rfl, trivial⟩
    refine then_normal ?_
    refine wp_cond_split (hA40.get rfl) (fun hc => ?_) (fun hc => ?_)
    · have ht41 := ht37.1 (of_decide_eq_true hc)
      clear hc
      refine wp_seq ?_
      refine wp_region_lit ?_
      refine sq (opk_val hA40 rfl (r_assign rfl) fun a43 hA43 _ => ?_)
      refine sq_end ?_
      have hA44 := hA43.keep [(8, .int .i64 4)] ⟨rfl, trivial⟩
      refine then_normal ?_
      refine wp_ret ?_
      refine block_ret ?_
      refine then_ret ?_
      exact res_all (vs := [.int .i64 4]) rfl hA44 ⟨res_of_tmp hA44 rfl, trivial⟩ ht41
    · have ht42 := ht37.2 (of_decide_eq_false hc)
      clear hc
      refine wp_seq ?_
      refine wp_region_lit ?_
      refine sq (opk_val hA40 rfl (r_move (hA40.get rfl)) fun a45 hA45 _ => ?_)
      refine sq (opk_call hA45 rfl (r_call (args := #[.string (Bs name_3)]) Try.func50 (by decide) rfl (map_arr (ml_cons (hA45.get rfl) ml_nil)) rfl) ht42 fun a47 v53 w48 hA47 _ hn50 hz51 hK52 => ?_)
      obtain ⟨r_46, rfl, ht49⟩ := hK52
      refine sq (opk_val hA47 rfl (r_not (hA47.get rfl)) fun a54 hA54 _ => ?_)
      refine sq (opk_val hA54 rfl (r_assign (hA54.get rfl)) fun a55 hA55 _ => ?_)
      refine sq_end ?_
      have hA56 := hA55.keep [(2, .string (Bs name_3)), (3, .string (Bs value_4)), (9, .pointer r_9), (25, .bool (!r_46))] ⟨rfl, rfl, rfl, rfl, trivial⟩
      refine then_normal ?_
      refine wp_cond_split (hA56.get rfl) (fun hc => ?_) (fun hc => ?_)
      · have ht57 := ht49.1 (b_not_t hc)
        clear hc
        refine wp_seq ?_
        refine wp_region_lit ?_
        refine sq (opk_val hA56 rfl (r_assign rfl) fun a59 hA59 _ => ?_)
        refine sq_end ?_
        have hA60 := hA59.keep [(8, .int .i64 8)] ⟨rfl, trivial⟩
        refine then_normal ?_
        refine wp_ret ?_
        refine block_ret ?_
        refine then_ret ?_
        exact res_all (vs := [.int .i64 8]) rfl hA60 ⟨res_of_tmp hA60 rfl, trivial⟩ ht57
      · have ht58 := ht49.2 (b_not_f hc)
        clear hc
        refine wp_skip ?_
        refine block_normal ?_
        refine then_normal ?_
        refine wp_seq ?_
        refine wp_region_lit ?_
        refine sq (opk_val hA56 rfl (r_move (hA56.get rfl)) fun a61 hA61 _ => ?_)
        refine sq (opk_val hA61 rfl (r_move (hA61.get rfl)) fun a62 hA62 _ => ?_)
        refine sq (opk_call hA62 rfl (r_call (args := #[.pointer r_9, .string (Bs name_3)]) Try.func51 (by decide) rfl (map_arr (ml_cons (hA62.get rfl) (ml_cons (hA62.get rfl) ml_nil))) rfl) ht58 fun a65 v71 w66 hA65 _ hn68 hz69 hK70 => ?_)
        obtain ⟨r_0_63, r_1_64, rfl, ht67⟩ := hK70
        refine sq (opk_val hA65 rfl (r_move (hA65.get rfl)) fun a72 hA72 _ => ?_)
        refine sq (opk_val hA72 rfl (r_extract (hA72.get rfl) rfl) fun a73 hA73 _ => ?_)
        refine sq (opk_val hA73 rfl (r_extract (hA73.get rfl) rfl) fun a74 hA74 _ => ?_)
        refine sq (opk_val hA74 rfl (r_assign (hA74.get rfl)) fun a75 hA75 _ => ?_)
        refine sq (opk_val hA75 rfl (r_assign (hA75.get rfl)) fun a76 hA76 _ => ?_)
        refine sq_end ?_
        have hA77 := hA76.keep [(2, .string (Bs name_3)), (3, .string (Bs value_4)), (9, .pointer r_9), (10, .int .i64 r_0_63), (11, .bool r_1_64)] ⟨rfl, rfl, rfl, rfl, rfl, trivial⟩
        refine then_normal ?_
        refine wp_seq ?_
        refine wp_block ?_
        refine wp_seq ?_
        refine wp_region_lit ?_
        refine sq (opk_val hA77 rfl (r_move (hA77.get rfl)) fun a78 hA78 _ => ?_)
        refine sq (opk_val hA78 rfl (r_slen (hA78.get rfl) Try.underlying9) fun a79 hA79 _ => ?_)
        refine sq (opk_val hA79 rfl (r_gtr (hA79.get rfl) rfl) fun a80 hA80 _ => ?_)
        refine sq (opk_val hA80 rfl (r_move (hA80.get rfl)) fun a81 hA81 _ => ?_)
        refine sq (opk_gval hA81 rfl rfl (g := true) (e := (decide (4096 < (value_4.length : Int)))) rfl (fun hg => r_move (hA81.get rfl)) fun a82 hA82 _ => ?_)
        refine sq (opk_gval hA82 rfl rfl (g := true) (e := (decide (4096 < (value_4.length : Int)))) rfl (fun hg => r_not (cv_get (hA82.get rfl) hg)) fun a83 hA83 _ => ?_)
        refine sq (opk_gval hA83 rfl rfl (g := true) (e := (decide (4096 < (value_4.length : Int)))) rfl (fun hg => r_move (cv_get (hA83.get rfl) hg)) fun a84 hA84 _ => ?_)
        refine sq (opk_gval hA84 rfl rfl (g := (true && ((decide (4096 < (value_4.length : Int))) == false))) (e := (!r_1_64)) rfl (fun hg => r_move (hA84.get rfl)) fun a85 hA85 _ => ?_)
        obtain ⟨p_87, hp88, ht89⟩ := ht67
        refine sq (opk_gval hA85 rfl rfl (g := (true && ((decide (4096 < (value_4.length : Int))) == false))) (e := (!r_1_64)) rfl (fun hg => r_nilCheckP (((cv_get (hA85.get rfl) hg)).trans (congrArg Value.pointer (hp88 ⟨(of_decide_eq_false (g_f (g_up hg))), (b_not_t (g_t hg))⟩)))) fun a86 hA86 _ => ?_)
        refine sq (opk_gval hA86 rfl rfl (g := (true && ((decide (4096 < (value_4.length : Int))) == false))) (e := (!r_1_64)) rfl (fun hg => r_fieldAddr (cv_get (hA86.get rfl) hg) Try.underlying76 rfl ti_29 (by decide)) fun a90 hA90 _ => ?_)
        refine sq (opk_gval hA90 rfl rfl (g := (true && ((decide (4096 < (value_4.length : Int))) == false))) (e := (!r_1_64)) rfl (fun hg => r_fieldAddr (cv_get (hA90.get rfl) hg) Try.underlying29 rfl ti_26 (by decide)) fun a91 hA91 _ => ?_)
        obtain ⟨x_93, hx94, ht95⟩ := ht89
        refine sq (opk_gval hA91 rfl rfl (g := (true && ((decide (4096 < (value_4.length : Int))) == false))) (e := (!r_1_64)) rfl (fun hg => r_load1 Try.underlying26 rfl (cv_get (hA91.get rfl) hg) (hx94 ⟨(of_decide_eq_false (g_f (g_up hg))), (b_not_t (g_t hg))⟩)) fun a92 hA92 _ => ?_)
        refine sq (opk_gval hA92 rfl rfl (g := (true && ((decide (4096 < (value_4.length : Int))) == false))) (e := (!r_1_64)) rfl (fun hg => r_len (cv_get (hA92.get rfl) hg) Try.underlying26) fun a96 hA96 _ => ?_)
        refine sq (opk_gval hA96 rfl rfl (g := (true && ((decide (4096 < (value_4.length : Int))) == false))) (e := (!r_1_64)) rfl (fun hg => r_geq (cv_get (hA96.get rfl) hg) rfl) fun a97 hA97 _ => ?_)
        refine sq (opk_gval hA97 rfl rfl (g := true) (e := (decide (4096 < (value_4.length : Int)))) rfl (fun hg => r_pick_and (g := ((true && ((decide (4096 < (value_4.length : Int))) == false)) && ((!r_1_64) == true))) (cv_get (hA97.get rfl) hg) (hA97.get rfl) (fun he => g_mkt hg he)) fun a98 hA98 _ => ?_)
        refine sq (opk_val hA98 rfl (r_pick_or (g := (true && ((decide (4096 < (value_4.length : Int))) == false))) (hA98.get rfl) (hA98.get rfl) (fun he => g_mkf rfl he)) fun a99 hA99 _ => ?_)
        refine sq (opk_val hA99 rfl (r_assign (hA99.get rfl)) fun a100 hA100 _ => ?_)
        refine sq_end ?_
        have hA101 := hA100.keep [(2, .string (Bs name_3)), (3, .string (Bs value_4)), (9, .pointer r_9), (10, .int .i64 r_0_63), (11, .bool r_1_64), (35, .bool ((decide (4096 < (value_4.length : Int))) || ((!r_1_64) && (decide (12 ≤ (x_93.n : Int))))))] ⟨rfl, rfl, rfl, rfl, rfl, rfl, trivial⟩
        refine then_normal ?_
        refine wp_cond_split (hA101.get rfl) (fun hc => ?_) (fun hc => ?_)
        · have ht102 := ht95.1 ((b_or_t hc).imp (fun h => (of_decide_eq_true h)) (fun h => ⟨(b_not_t (b_and_t h).1), (of_decide_eq_true (b_and_t h).2)⟩))
          clear hc
          refine wp_seq ?_
          refine wp_region_lit ?_
          refine sq (opk_val hA101 rfl (r_assign rfl) fun a104 hA104 _ => ?_)
          refine sq_end ?_
          have hA105 := hA104.keep [(8, .int .i64 2)] ⟨rfl, trivial⟩
          refine then_normal ?_
          refine wp_ret ?_
          refine block_ret ?_
          refine then_ret ?_
          exact res_all (vs := [.int .i64 2]) rfl hA105 ⟨res_of_tmp hA105 rfl, trivial⟩ ht102
        · have ht103 := ht95.2 ⟨(of_decide_eq_false (b_or_f hc).1), ((b_and_f (b_or_f hc).2).imp (fun h => (b_not_f h)) (fun h => (of_decide_eq_false h)))⟩
          clear hc
          refine wp_seq ?_
          refine wp_region_lit ?_
          refine sq (opk_val hA101 rfl (r_move (hA101.get rfl)) fun a106 hA106 _ => ?_)
          refine sq (opk_val hA106 rfl (r_not (hA106.get rfl)) fun a107 hA107 _ => ?_)
          refine sq (opk_val hA107 rfl (r_assign (hA107.get rfl)) fun a108 hA108 _ => ?_)
          refine sq_end ?_
          have hA109 := hA108.keep [(2, .string (Bs name_3)), (3, .string (Bs value_4)), (9, .pointer r_9), (10, .int .i64 r_0_63), (52, .bool (!r_1_64))] ⟨rfl, rfl, rfl, rfl, rfl, trivial⟩
          refine then_normal ?_
          refine wp_cond_split (hA109.get rfl) (fun hc => ?_) (fun hc => ?_)
          · have ht110 := ht103.1 (b_not_t hc)
            clear hc
            refine wp_region_lit ?_
            refine sq (opk_val hA109 rfl (r_move (hA109.get rfl)) fun a112 hA112 _ => ?_)
            refine sq (opk_val hA112 rfl (r_move (hA112.get rfl)) fun a113 hA113 _ => ?_)
            obtain ⟨p_115, hp116, ht117⟩ := ht110
            refine sq (opk_val hA113 rfl (r_nilCheckP (((hA113.get rfl)).trans (congrArg Value.pointer hp116))) fun a114 hA114 _ => ?_)
            refine sq (opk_val hA114 rfl (r_fieldAddr (hA114.get rfl) Try.underlying76 rfl ti_29 (by decide)) fun a118 hA118 _ => ?_)
            refine sq (opk_val hA118 rfl (r_fieldAddr (hA118.get rfl) Try.underlying29 rfl ti_26 (by decide)) fun a119 hA119 _ => ?_)
            obtain ⟨x_121, hx122, ht123⟩ := ht117
            refine sq (opk_val hA119 rfl (r_load1 Try.underlying26 rfl (hA119.get rfl) hx122) fun a120 hA120 _ => ?_)
            refine sq (opk_val hA120 rfl (r_move (hA120.get rfl)) fun a124 hA124 _ => ?_)
            refine sq (opk_val hA124 rfl (r_move (hA124.get rfl)) fun a125 hA125 _ => ?_)
            refine sq (opk_val hA125 rfl (r_build (vs := #[(0, .string (Bs name_3))]) (cells := #[.string (Bs name_3), .string (Bs ([] : Str))]) (map_arr2 (ml2_cons (hA125.get rfl) (ml2_nil))) ti_65 Try.underlying65 pl_65 (by kernel_rfl)) fun a126 hA126 _ => ?_)
            refine sq (opk_new (fun B => .slice (some ⟨B, 0, none⟩) 1 1) hA126 rfl (r_buildSlice (vs := #[(0, .agg #[.string (Bs name_3), .string (Bs ([] : Str))])]) (cs := [.string (Bs name_3), .string (Bs ([] : Str))]) (map_arr2 (ml2_cons (hA126.get rfl) (ml2_nil))) Try.underlying26 ti_65 rfl rfl (by kernel_rfl)) fun a129 w128 B_127 hE130 hN131 hB132 hA129 _ => ?_)
            have hN133 : New w66 B_127 w128 := hN131
            have hC134 : Chg [] w66 w128 := hE130
            have ht135 := ht123 w128 B_127 hN133  hC134
            have ht136 := ht135 hB132
            refine sq (opk_call hA129 rfl (r_call (args := #[Sl.v x_121, .int .i64 r_0_63, Sl.v (Sl.mk (some ⟨B_127, 0, none⟩) 1 1)]) Try.func52 (by decide) rfl (map_arr (ml_cons (hA129.get rfl) (ml_cons (hA129.get rfl) (ml_cons (hA129.get rfl) ml_nil)))) rfl) ht136 fun a138 v144 w139 hA138 _ hn141 hz142 hK143 => ?_)
            obtain ⟨r_137, rfl, ht140⟩ := hK143
            obtain ⟨p_146, hp147, ht148⟩ := ht140
            refine sq (opk_val hA138 rfl (r_nilCheckP (((hA138.get rfl)).trans (congrArg Value.pointer hp147))) fun a145 hA145 _ => ?_)
            refine sq (opk_val hA145 rfl (r_fieldAddr (hA145.get rfl) Try.underlying76 rfl ti_29 (by decide)) fun a149 hA149 _ => ?_)
            refine sq (opk_val hA149 rfl (r_fieldAddr (hA149.get rfl) Try.underlying29 rfl ti_26 (by decide)) fun a150 hA150 _ => ?_)
            obtain ⟨B_155, o_156, T_157, cs_158, he159, hb160, hl161, hx162, ht163⟩ := ht148
            refine sq (opk_store hA150 hb160 (r_store (vs := [Sl.v r_137]) (((hA150.get rfl)).trans (congrArg (fun a => Value.pointer (some a)) he159)) (hA150.get rfl) rfl ti_26 hb160 (Nat.ble_eq_true_of_le hl161) (ones_all [Sl.v r_137] rfl)) fun a152 w151 hS153 hB154 hA152 => ?_)
            have ht164 := ht163 w151 hS153 hB154
            refine sq_end ?_
            have hA165 := hA152.keep [(3, .string (Bs value_4)), (9, .pointer r_9), (10, .int .i64 r_0_63)] ⟨rfl, rfl, rfl, trivial⟩
            refine block_normal ?_
            refine then_normal ?_
            refine wp_seq ?_
            refine wp_region_lit ?_
            refine sq (opk_val hA165 rfl (r_move (hA165.get rfl)) fun a166 hA166 _ => ?_)
            obtain ⟨p_168, hp169, ht170⟩ := ht164
            refine sq (opk_val hA166 rfl (r_nilCheckP (((hA166.get rfl)).trans (congrArg Value.pointer hp169))) fun a167 hA167 _ => ?_)
            refine sq (opk_val hA167 rfl (r_fieldAddr (hA167.get rfl) Try.underlying76 rfl ti_29 (by decide)) fun a171 hA171 _ => ?_)
            refine sq (opk_val hA171 rfl (r_fieldAddr (hA171.get rfl) Try.underlying29 rfl ti_26 (by decide)) fun a172 hA172 _ => ?_)
            obtain ⟨x_174, hx175, ht176⟩ := ht170
            refine sq (opk_val hA172 rfl (r_load1 Try.underlying26 rfl (hA172.get rfl) hx175) fun a173 hA173 _ => ?_)
            refine sq (opk_val hA173 rfl (r_move (hA173.get rfl)) fun a177 hA177 _ => ?_)
            refine sq (opk_val hA177 rfl (r_move (hA177.get rfl)) fun a178 hA178 _ => ?_)
            obtain ⟨hb180, p_179, hp181, ht182⟩ := ht176
            refine sq (opk_val hA178 rfl (r_indexAddr (hA178.get rfl) (hA178.get rfl) Try.underlying26 ti_65 hb180 hp181) fun a183 hA183 _ => ?_)
            refine sq (opk_val hA183 rfl (r_fieldAddr (hA183.get rfl) Try.underlying65 rfl ti_9 (by decide)) fun a184 hA184 _ => ?_)
            obtain ⟨B_189, o_190, T_191, cs_192, he193, hb194, hl195, hx196, ht197⟩ := ht182
            refine sq (opk_store hA184 hb194 (r_store (vs := [.string (Bs value_4)]) (((hA184.get rfl)).trans (congrArg (fun a => Value.pointer (some a)) he193)) (hA184.get rfl) rfl ti_9 hb194 (Nat.ble_eq_true_of_le hl195) (ones_all [.string (Bs value_4)] rfl)) fun a186 w185 hS187 hB188 hA186 => ?_)
            have ht198 := ht197 w185 hS187 hB188
            refine sq_end ?_
            have hA199 := hA186.keep [] trivial
            refine then_normal ?_
            refine wp_seq ?_
            refine wp_region_lit ?_
            refine sq (opk_val hA199 rfl (r_assign rfl) fun a200 hA200 _ => ?_)
            refine sq_end ?_
            have hA201 := hA200.keep [(8, .int .i64 0)] ⟨rfl, trivial⟩
            refine then_normal ?_
            refine wp_ret ?_
            exact res_all (vs := [.int .i64 0]) rfl hA201 ⟨res_of_tmp hA201 rfl, trivial⟩ ht198
          · have ht111 := ht103.2 (b_not_f hc)
            clear hc
            refine wp_skip ?_
            refine block_normal ?_
            refine then_normal ?_
            refine wp_seq ?_
            refine wp_region_lit ?_
            refine sq (opk_val hA109 rfl (r_move (hA109.get rfl)) fun a202 hA202 _ => ?_)
            obtain ⟨p_204, hp205, ht206⟩ := ht111
            refine sq (opk_val hA202 rfl (r_nilCheckP (((hA202.get rfl)).trans (congrArg Value.pointer hp205))) fun a203 hA203 _ => ?_)
            refine sq (opk_val hA203 rfl (r_fieldAddr (hA203.get rfl) Try.underlying76 rfl ti_29 (by decide)) fun a207 hA207 _ => ?_)
            refine sq (opk_val hA207 rfl (r_fieldAddr (hA207.get rfl) Try.underlying29 rfl ti_26 (by decide)) fun a208 hA208 _ => ?_)
            obtain ⟨x_210, hx211, ht212⟩ := ht206
            refine sq (opk_val hA208 rfl (r_load1 Try.underlying26 rfl (hA208.get rfl) hx211) fun a209 hA209 _ => ?_)
            refine sq (opk_val hA209 rfl (r_move (hA209.get rfl)) fun a213 hA213 _ => ?_)
            refine sq (opk_val hA213 rfl (r_move (hA213.get rfl)) fun a214 hA214 _ => ?_)
            obtain ⟨hb216, p_215, hp217, ht218⟩ := ht212
            refine sq (opk_val hA214 rfl (r_indexAddr (hA214.get rfl) (hA214.get rfl) Try.underlying26 ti_65 hb216 hp217) fun a219 hA219 _ => ?_)
            refine sq (opk_val hA219 rfl (r_fieldAddr (hA219.get rfl) Try.underlying65 rfl ti_9 (by decide)) fun a220 hA220 _ => ?_)
            obtain ⟨B_225, o_226, T_227, cs_228, he229, hb230, hl231, hx232, ht233⟩ := ht218
            refine sq (opk_store hA220 hb230 (r_store (vs := [.string (Bs value_4)]) (((hA220.get rfl)).trans (congrArg (fun a => Value.pointer (some a)) he229)) (hA220.get rfl) rfl ti_9 hb230 (Nat.ble_eq_true_of_le hl231) (ones_all [.string (Bs value_4)] rfl)) fun a222 w221 hS223 hB224 hA222 => ?_)
            have ht234 := ht233 w221 hS223 hB224
            refine sq_end ?_
            have hA235 := hA222.keep [] trivial
            refine then_normal ?_
            refine wp_seq ?_
            refine wp_region_lit ?_
            refine sq (opk_val hA235 rfl (r_assign rfl) fun a236 hA236 _ => ?_)
            refine sq_end ?_
            have hA237 := hA236.keep [(8, .int .i64 0)] ⟨rfl, trivial⟩
            refine then_normal ?_
            refine wp_ret ?_
            exact res_all (vs := [.int .i64 0]) rfl hA237 ⟨res_of_tmp hA237 rfl, trivial⟩ ht234

/-- The condition of (*topiary/dom.Dom).Tree. -/
def dom_Dom_Tree.vc (d_1 : Addr) (R : Value → World → Prop) (w : World) : Prop :=
∀ (w3 : World) (B_2 : Nat), New w B_2 w3 → Chg [] w w3 →
CallK Try.prog 53 #[.pointer (some d_1), .int .i64 0] w3 [B_2] (fun v w15 => ∃ (r_13_Kind : Int) (r_13_Name : Str) (r_13_Text : Str) (r_13_Attrs : Sl) (r_13_Kids : Sl), v = .agg #[.int .i64 r_13_Kind, .string (Bs r_13_Name), .string (Bs r_13_Text), Sl.v r_13_Attrs, Sl.v r_13_Kids] ∧
∀ (w22 : World), Chg [B_2] w15 w22 →
R (.agg #[.int .i64 r_13_Kind, .string (Bs r_13_Name), .string (Bs r_13_Text), Sl.v r_13_Attrs, Sl.v r_13_Kids]) w22)
set_option maxHeartbeats 1000000 in
set_option maxRecDepth 10000 in
theorem dom_Dom_Tree.ok (d_1 : Addr) {R : Value → World → Prop} {w : World} (ht0 : dom_Dom_Tree.vc d_1 R w) : Calls Try.prog 18 #[.pointer (some d_1)] w (Ret R) := by
  refine enter [.pointer (some d_1)] Try.func18 rfl Try.ntmps18 rfl ?_
  intro a0 hA0
  unfold dom_Dom_Tree.vc at ht0
  refine wp_seq ?_
  refine wp_region_lit ?_
  refine sq (opk_new (fun B => .pointer (some ⟨B, 0, none⟩)) hA0 rfl (r_alloc (cs := [.int .i64 0, .string (Bs ([] : Str)), .string (Bs ([] : Str)), Sl.v Sl.nil, Sl.v Sl.nil]) ti_29 rfl) fun a4 w3 B_2 hE5 hN6 hB7 hA4 _ => ?_)
  have hN8 : New w B_2 w3 := hN6
  have hC9 : Chg [] w w3 := hE5
  refine sq_end ?_
  have hA10 := hA4.keep [(0, .pointer (some d_1)), (2, .pointer (some (⟨B_2, 0, none⟩ : Addr)))] ⟨rfl, rfl, trivial⟩
  refine then_normal ?_
  refine wp_seq ?_
  refine wp_region_lit ?_
  refine sq (opk_val hA10 rfl (r_move (hA10.get rfl)) fun a11 hA11 _ => ?_)
  have ht12 := ht0 w3 B_2 hN8  hC9
  refine sq (opk_call hA11 rfl (r_call (args := #[.pointer (some d_1), .int .i64 0]) Try.func53 (by decide) rfl (map_arr (ml_cons (hA11.get rfl) (ml_cons rfl ml_nil))) rfl) ht12 fun a14 v20 w15 hA14 _ hn17 hz18 hK19 => ?_)
  obtain ⟨r_13_Kind, r_13_Name, r_13_Text, r_13_Attrs, r_13_Kids, rfl, ht16⟩ := hK19
  have hB21 := hB7.kept hn17 (.head _)
  refine sq (opk_store hA14 hB21 (r_store (vs := [.int .i64 r_13_Kind, .string (Bs r_13_Name), .string (Bs r_13_Text), Sl.v r_13_Attrs, Sl.v r_13_Kids]) (hA14.get rfl) (hA14.get rfl) rfl ti_29 hB21 rfl (ones_all [.int .i64 r_13_Kind, .string (Bs r_13_Name), .string (Bs r_13_Text), Sl.v r_13_Attrs, Sl.v r_13_Kids] rfl)) fun a23 w22 hS24 hB25 hA23 => ?_)
  have hB26 : Box w22 B_2 29 [.int .i64 r_13_Kind, .string (Bs r_13_Name), .string (Bs r_13_Text), Sl.v r_13_Attrs, Sl.v r_13_Kids] := hB25
  have hC27 : Chg [B_2] w15 w22 := hS24
  refine sq_end ?_
  have hA28 := hA23.keep [(2, .pointer (some (⟨B_2, 0, none⟩ : Addr)))] ⟨rfl, trivial⟩
  refine then_normal ?_
  refine wp_ret ?_
  have ht29 := ht16 w22    hC27
  exact res_all (vs := [.agg #[.int .i64 r_13_Kind, .string (Bs r_13_Name), .string (Bs r_13_Text), Sl.v r_13_Attrs, Sl.v r_13_Kids]]) rfl hA28 ⟨res_of_cell hA28 rfl hB26 Try.underlying29 rfl ti_29, trivial⟩ ht29

/-- The condition of (*topiary/dom.Dom).Delete. -/
def dom_Dom_Delete.vc (d_1 : Addr) (id_2 : Int) (R : Value → World → Prop) (w : World) : Prop :=
CallK Try.prog 45 #[.pointer (some d_1), .int .i64 id_2] w [] (fun v w9 => ∃ (r_7 : Option Addr), v = .pointer r_7 ∧
(((Option.isNone r_7) = true) →
R (.int .i64 3) w9) ∧
(((Option.isNone r_7) = false) →
∃ p_27 : Addr, (r_7 = some p_27) ∧
∃ (x_33 : Int), (w9.cell? ((p_27.add 2).add 0) = some (.int .i64 x_33)) ∧
((x_33 = 1) →
R (.int .i64 4) w9) ∧
((¬ (x_33 = 1)) →
∃ p_45 : Addr, (r_7 = some p_45) ∧
∃ (x_50 : Sl), (w9.cell? (p_45.add 7) = some (Sl.v x_50)) ∧
((0 < (x_50.n : Int)) →
R (.int .i64 7) w9) ∧
((¬ (0 < (x_50.n : Int))) →
CallK Try.prog 57 #[.pointer (some d_1), .int .i64 id_2] w9 [] (fun v w64 => v = .tuple #[] ∧
∃ (x_75 : Option Nat), (w64.cell? (d_1.add 1) = some (.map x_75)) ∧
∃ (r_80 : Int), ((Instr.lookup 68 (.map x_75) (.int .i64 id_2) false).run Try.prog w64 = .ok (.int .i64 r_80) w64) ∧
∀ (w85 : World), Chg [] w64 w85 →
∃ (x_92 : Sl), (w85.cell? (d_1.add 0) = some (Sl.v x_92)) ∧
∃ (x_98 : Sl), (w85.cell? (d_1.add 0) = some (Sl.v x_98)) ∧
(I64 ((x_98.n : Int) - 1)) ∧
∃ p_107 : Addr, (((0 : Int) ≤ (x_98.n : Int) - 1 ∧ (x_98.n : Int) - 1 < (x_92.n : Int)) ∧ x_92.a = some p_107) ∧
∃ (x_111_id : Int) (x_111_parent : Int) (x_111_t_Kind : Int) (x_111_t_Name : Str) (x_111_t_Text : Str) (x_111_t_Attrs : Sl) (x_111_t_Kids : Sl) (x_111_kids : Sl), (Cells w85 (p_107.add (((x_98.n : Int) - 1).toNat * 8)) [.int .i64 x_111_id, .int .i64 x_111_parent, .int .i64 x_111_t_Kind, .string (Bs x_111_t_Name), .string (Bs x_111_t_Text), Sl.v x_111_t_Attrs, Sl.v x_111_t_Kids, Sl.v x_111_kids]) ∧
∀ (w120 : World) (B_114 : Nat), Ext w85 w120 → w85.heap.size ≤ B_114 → Box w120 B_114 76 [.int .i64 0, .int .i64 0, .int .i64 0, .string (Bs ([] : Str)), .string (Bs ([] : Str)), Sl.v Sl.nil, Sl.v Sl.nil, Sl.v Sl.nil] → 
∀ (w140 : World), Chg [B_114] w120 w140 →
∃ (x_148 : Sl), (w140.cell? (d_1.add 0) = some (Sl.v x_148)) ∧
∃ p_153 : Addr, (((0 : Int) ≤ r_80 ∧ r_80 < (x_148.n : Int)) ∧ x_148.a = some p_153) ∧
∀ (w157 : World), Chg [] w140 w157 →
∃ (B_173 o_174 : Nat) (T_175 : TypeId) (cs_176 : List Value), (p_153.add (r_80.toNat * 8)) = ⟨B_173, o_174, none⟩ ∧ Box w157 B_173 T_175 cs_176 ∧ o_174 + 8 ≤ cs_176.length ∧ (∀ b ∈ [B_114], b ≠ B_173) ∧
(∀ w168 : World, Chg [B_173] w157 w168 → Box w168 B_173 T_175 (putAt cs_176 o_174 [.int .i64 x_111_id, .int .i64 x_111_parent, .int .i64 x_111_t_Kind, .string (Bs x_111_t_Name), .string (Bs x_111_t_Text), Sl.v x_111_t_Attrs, Sl.v x_111_t_Kids, Sl.v x_111_kids]) →
∀ (w185 : World), Chg [] w168 w185 →
∃ (x_193 : Option Nat), (w185.cell? (d_1.add 1) = some (.map x_193)) ∧
∀ (w198 : World), Chg [] w185 w198 →
RunU Try.prog (Instr.mapUpdate 68 (.map x_193) (.int .i64 x_111_id) (.int .i64 r_80)) w198 [B_114] (fun w213 =>
∃ (x_223 : Option Nat), (w213.cell? (d_1.add 1) = some (.map x_223)) ∧
RunN Try.prog (Builtin.delete_ #[68, 3] 0 #[.map x_223, .int .i64 id_2]) w213 [] (fun w228 =>
∀ (w233 : World), Chg [] w228 w233 →
∃ (x_240 : Sl), (w233.cell? (d_1.add 0) = some (Sl.v x_240)) ∧
∃ (x_246 : Sl), (w233.cell? (d_1.add 0) = some (Sl.v x_246)) ∧
(I64 ((x_246.n : Int) - 1)) ∧
((0 : Int) ≤ (x_246.n : Int) - 1 ∧ (x_246.n : Int) - 1 ≤ (x_240.c : Int)) ∧
∀ (w260 : World), Chg [] w233 w260 →
∃ (B_275 o_276 : Nat) (T_277 : TypeId) (cs_278 : List Value), (d_1.add 0) = ⟨B_275, o_276, none⟩ ∧ Box w260 B_275 T_277 cs_278 ∧ o_276 + 1 ≤ cs_278.length ∧ (∀ b ∈ [], b ≠ B_275) ∧
(∀ w270 : World, Chg [B_275] w260 w270 → Box w270 B_275 T_277 (putAt cs_278 o_276 [Sl.v (Sl.cut x_240 8 0 ((x_246.n : Int) - 1).toNat x_240.c)]) →
R (.int .i64 0) w270)))))))))
set_option maxHeartbeats 1000000 in
set_option maxRecDepth 10000 in
theorem dom_Dom_Delete.ok (d_1 : Addr) (id_2 : Int) {R : Value → World → Prop} {w : World} (ht0 : dom_Dom_Delete.vc d_1 id_2 R w) : Calls Try.prog 22 #[.pointer (some d_1), .int .i64 id_2] w (Ret R) := by
  refine enter [.pointer (some d_1), .int .i64 id_2] Try.func22 rfl Try.ntmps22 rfl ?_
  intro a0 hA0
  unfold dom_Dom_Delete.vc at ht0
  refine wp_seq ?_
  refine wp_region_lit ?_
  refine sq (opk_val hA0 rfl (r_assign rfl) fun a3 hA3 _ => ?_)
  refine sq_end ?_
  have hA4 := hA3.keep [(0, .pointer (some d_1)), (1, .int .i64 id_2)] ⟨rfl, rfl, trivial⟩
  refine then_normal ?_
  refine wp_seq ?_
  refine wp_region_lit ?_
  refine sq (opk_val hA4 rfl (r_move (hA4.get rfl)) fun a5 hA5 _ => ?_)
  refine sq (opk_val hA5 rfl (r_move (hA5.get rfl)) fun a6 hA6 _ => ?_)
  refine sq (opk_call hA6 rfl (r_call (args := #[.pointer (some d_1), .int .i64 id_2]) Try.func45 (by decide) rfl (map_arr (ml_cons (hA6.get rfl) (ml_cons (hA6.get rfl) ml_nil))) rfl) ht0 fun a8 v14 w9 hA8 _ hn11 hz12 hK13 => ?_)
  obtain ⟨r_7, rfl, ht10⟩ := hK13
  refine sq (opk_val hA8 rfl (r_assign (hA8.get rfl)) fun a15 hA15 _ => ?_)
  refine sq_end ?_
  have hA16 := hA15.keep [(0, .pointer (some d_1)), (1, .int .i64 id_2), (5, .pointer r_7)] ⟨rfl, rfl, rfl, trivial⟩
  refine then_normal ?_
  refine wp_seq ?_
  refine wp_block ?_
  refine wp_seq ?_
  refine wp_region_lit ?_
  refine sq (opk_val hA16 rfl (r_move (hA16.get rfl)) fun a17 hA17 _ => ?_)
  refine sq (opk_val hA17 rfl (r_pnil (o := r_7) (hA17.get rfl) rfl Try.underlying73) fun a18 hA18 _ => ?_)
  refine sq (opk_val hA18 rfl (r_assign (hA18.get rfl)) fun a19 hA19 _ => ?_)
  refine sq_end ?_
  have hA20 := hA19.keep [(0, .pointer (some d_1)), (1, .int .i64 id_2), (5, .pointer r_7), (11, .bool (Option.isNone r_7))] ⟨rfl, rfl, rfl, rfl, trivial⟩
  refine then_normal ?_
  refine wp_cond_split (hA20.get rfl) (fun hc => ?_) (fun hc => ?_)
  · have ht21 := ht10.1 hc
    clear hc
    refine wp_seq ?_
    refine wp_region_lit ?_
    refine sq (opk_val hA20 rfl (r_assign rfl) fun a23 hA23 _ => ?_)
    refine sq_end ?_
    have hA24 := hA23.keep [(4, .int .i64 3)] ⟨rfl, trivial⟩
    refine then_normal ?_
    refine wp_ret ?_
    refine block_ret ?_
    refine then_ret ?_
    exact res_all (vs := [.int .i64 3]) rfl hA24 ⟨res_of_tmp hA24 rfl, trivial⟩ ht21
  · have ht22 := ht10.2 hc
    clear hc
    refine wp_seq ?_
    refine wp_region_lit ?_
    refine sq (opk_val hA20 rfl (r_move (hA20.get rfl)) fun a25 hA25 _ => ?_)
    obtain ⟨p_27, hp28, ht29⟩ := ht22
    refine sq (opk_val hA25 rfl (r_nilCheckP (((hA25.get rfl)).trans (congrArg Value.pointer hp28))) fun a26 hA26 _ => ?_)
    refine sq (opk_val hA26 rfl (r_fieldAddr (hA26.get rfl) Try.underlying76 rfl ti_29 (by decide)) fun a30 hA30 _ => ?_)
    refine sq (opk_val hA30 rfl (r_fieldAddr (hA30.get rfl) Try.underlying29 rfl ti_3 (by decide)) fun a31 hA31 _ => ?_)
    obtain ⟨x_33, hx34, ht35⟩ := ht29
    refine sq (opk_val hA31 rfl (r_load1 Try.underlying3 rfl (hA31.get rfl) hx34) fun a32 hA32 _ => ?_)
    refine sq (opk_val hA32 rfl (r_eql (hA32.get rfl) rfl) fun a36 hA36 _ => ?_)
    refine sq (opk_val hA36 rfl (r_assign (hA36.get rfl)) fun a37 hA37 _ => ?_)
    refine sq_end ?_
    have hA38 := hA37.keep [(0, .pointer (some d_1)), (1, .int .i64 id_2), (5, .pointer r_7), (14, .bool (decide (x_33 = 1)))] ⟨rfl, rfl, rfl, rfl, trivial⟩
    refine then_normal ?_
    refine wp_cond_split (hA38.get rfl) (fun hc => ?_) (fun hc => ?_)
    · have ht39 := ht35.1 (of_decide_eq_true hc)
      clear hc
      refine wp_seq ?_
      refine wp_region_lit ?_
      refine sq (opk_val hA38 rfl (r_assign rfl) fun a41 hA41 _ => ?_)
      refine sq_end ?_
      have hA42 := hA41.keep [(4, .int .i64 4)] ⟨rfl, trivial⟩
      refine then_normal ?_
      refine wp_ret ?_
      refine block_ret ?_
      refine then_ret ?_
      exact res_all (vs := [.int .i64 4]) rfl hA42 ⟨res_of_tmp hA42 rfl, trivial⟩ ht39
    · have ht40 := ht35.2 (of_decide_eq_false hc)
      clear hc
      refine wp_seq ?_
      refine wp_region_lit ?_
      refine sq (opk_val hA38 rfl (r_move (hA38.get rfl)) fun a43 hA43 _ => ?_)
      obtain ⟨p_45, hp46, ht47⟩ := ht40
      refine sq (opk_val hA43 rfl (r_nilCheckP (((hA43.get rfl)).trans (congrArg Value.pointer hp46))) fun a44 hA44 _ => ?_)
      refine sq (opk_val hA44 rfl (r_fieldAddr (hA44.get rfl) Try.underlying76 rfl ti_36 (by decide)) fun a48 hA48 _ => ?_)
      obtain ⟨x_50, hx51, ht52⟩ := ht47
      refine sq (opk_val hA48 rfl (r_load1 Try.underlying36 rfl (hA48.get rfl) hx51) fun a49 hA49 _ => ?_)
      refine sq (opk_val hA49 rfl (r_len (hA49.get rfl) Try.underlying36) fun a53 hA53 _ => ?_)
      refine sq (opk_val hA53 rfl (r_gtr (hA53.get rfl) rfl) fun a54 hA54 _ => ?_)
      refine sq (opk_val hA54 rfl (r_assign (hA54.get rfl)) fun a55 hA55 _ => ?_)
      refine sq_end ?_
      have hA56 := hA55.keep [(0, .pointer (some d_1)), (1, .int .i64 id_2), (21, .bool (decide (0 < (x_50.n : Int))))] ⟨rfl, rfl, rfl, trivial⟩
      refine then_normal ?_
      refine wp_cond_split (hA56.get rfl) (fun hc => ?_) (fun hc => ?_)
      · have ht57 := ht52.1 (of_decide_eq_true hc)
        clear hc
        refine wp_seq ?_
        refine wp_region_lit ?_
        refine sq (opk_val hA56 rfl (r_assign rfl) fun a59 hA59 _ => ?_)
        refine sq_end ?_
        have hA60 := hA59.keep [(4, .int .i64 7)] ⟨rfl, trivial⟩
        refine then_normal ?_
        refine wp_ret ?_
        refine block_ret ?_
        refine then_ret ?_
        exact res_all (vs := [.int .i64 7]) rfl hA60 ⟨res_of_tmp hA60 rfl, trivial⟩ ht57
      · have ht58 := ht52.2 (of_decide_eq_false hc)
        clear hc
        refine wp_skip ?_
        refine block_normal ?_
        refine then_normal ?_
        refine wp_seq ?_
        refine wp_region_lit ?_
        refine sq (opk_val hA56 rfl (r_move (hA56.get rfl)) fun a61 hA61 _ => ?_)
        refine sq (opk_val hA61 rfl (r_move (hA61.get rfl)) fun a62 hA62 _ => ?_)
        refine sq (opk_call hA62 rfl (r_call (args := #[.pointer (some d_1), .int .i64 id_2]) Try.func57 (by decide) rfl (map_arr (ml_cons (hA62.get rfl) (ml_cons (hA62.get rfl) ml_nil))) rfl) ht58 fun a63 v69 w64 hA63 _ hn66 hz67 hK68 => ?_)
        obtain ⟨rfl, ht65⟩ := hK68
        refine sq_end ?_
        have hA70 := hA63.keep [(0, .pointer (some d_1)), (1, .int .i64 id_2)] ⟨rfl, rfl, trivial⟩
        refine then_normal ?_
        refine wp_seq ?_
        refine wp_region_lit ?_
        refine sq (opk_val hA70 rfl (r_move (hA70.get rfl)) fun a71 hA71 _ => ?_)
        refine sq (opk_val hA71 rfl (r_nilCheck (hA71.get rfl)) fun a72 hA72 _ => ?_)
        refine sq (opk_val hA72 rfl (r_fieldAddr (hA72.get rfl) Try.underlying71 rfl ti_68 (by decide)) fun a73 hA73 _ => ?_)
        obtain ⟨x_75, hx76, ht77⟩ := ht65
        refine sq (opk_val hA73 rfl (r_load1 Try.underlying68 rfl (hA73.get rfl) hx76) fun a74 hA74 _ => ?_)
        refine sq (opk_val hA74 rfl (r_move (hA74.get rfl)) fun a78 hA78 _ => ?_)
        obtain ⟨r_80, hx81, ht82⟩ := ht77
        refine sq (opk_val hA78 rfl (r_lookup (hA78.get rfl) (hA78.get rfl) hx81) fun a79 hA79 _ => ?_)
        refine sq (opk_val hA79 rfl (r_assign (hA79.get rfl)) fun a83 hA83 _ => ?_)
        refine sq_end ?_
        have hA84 := hA83.keep [(0, .pointer (some d_1)), (1, .int .i64 id_2), (6, .int .i64 r_80)] ⟨rfl, rfl, rfl, trivial⟩
        refine then_normal ?_
        refine wp_seq ?_
        refine draw' (by kernel_rfl) fun w85 hE86 => ?_
        have hC87 : Chg [] w64 w85 := hE86
        have ht88 := ht82 w85    hC87
        obtain ⟨x_92, hx93, ht94⟩ := ht88
        obtain ⟨x_98, hx99, ht100⟩ := ht94
        obtain ⟨hS103, ht104⟩ := ht100
        obtain ⟨p_107, hp108, ht109⟩ := ht104
        obtain ⟨x_111_id, x_111_parent, x_111_t_Kind, x_111_t_Name, x_111_t_Text, x_111_t_Attrs, x_111_t_Kids, x_111_kids, hx112, ht113⟩ := ht109
        refine par (D := [[], [0], [0, 1], [0, 1, 2], [], [4], [4, 5], [4, 5, 6], [4, 5, 6, 7], [4, 5, 6, 7, 8], [0, 1, 2, 3, 4, 5, 6, 7, 8, 9], [0, 1, 2, 3, 4, 5, 6, 7, 8, 9, 10], [], [0, 1, 2, 3, 4, 5, 6, 7, 8, 9, 10, 11, 12]]) (S := [0, 1, 2, 3, 4, 5, 6, 7, 8, 9, 10, 11, 12]) (F := []) (V := VL [(0, fun v _ => v = .pointer (some d_1)), (1, fun v _ => v = .pointer (some d_1)), (2, fun v _ => v = .pointer (some (d_1.add 0))), (3, fun v _ => v = Sl.v x_92), (4, fun v _ => v = .pointer (some d_1)), (5, fun v _ => v = .pointer (some d_1)), (6, fun v _ => v = .pointer (some (d_1.add 0))), (7, fun v _ => v = Sl.v x_98), (8, fun v _ => v = .int .i64 (x_98.n : Int)), (9, fun v _ => v = .int .i64 ((x_98.n : Int) - 1)), (10, fun v _ => v = .pointer (some (p_107.add (((x_98.n : Int) - 1).toNat * 8)))), (11, fun v _ => v = .agg #[.int .i64 x_111_id, .int .i64 x_111_parent, .int .i64 x_111_t_Kind, .string (Bs x_111_t_Name), .string (Bs x_111_t_Text), Sl.v x_111_t_Attrs, Sl.v x_111_t_Kids, Sl.v x_111_kids]), (12, fun v w' => ∃ B_114 : Nat, w85.heap.size ≤ B_114 ∧ Box w' B_114 76 [.int .i64 0, .int .i64 0, .int .i64 0, .string (Bs ([] : Str)), .string (Bs ([] : Str)), Sl.v Sl.nil, Sl.v Sl.nil, Sl.v Sl.nil] ∧ v = .pointer (some (⟨B_114, 0, none⟩ : Addr)))]) hA84 (by kernel_rfl) ⟨fun _ _ _ _ h => by first | exact h | (change _ = _ at h; change _ = _; exact h), fun _ _ _ _ h => by first | exact h | (change _ = _ at h; change _ = _; exact h), fun _ _ _ _ h => by first | exact h | (change _ = _ at h; change _ = _; exact h), fun _ _ _ _ h => by first | exact h | (change _ = _ at h; change _ = _; exact h), fun _ _ _ _ h => by first | exact h | (change _ = _ at h; change _ = _; exact h), fun _ _ _ _ h => by first | exact h | (change _ = _ at h; change _ = _; exact h), fun _ _ _ _ h => by first | exact h | (change _ = _ at h; change _ = _; exact h), fun _ _ _ _ h => by first | exact h | (change _ = _ at h; change _ = _; exact h), fun _ _ _ _ h => by first | exact h | (change _ = _ at h; change _ = _; exact h), fun _ _ _ _ h => by first | exact h | (change _ = _ at h; change _ = _; exact h), fun _ _ _ _ h => by first | exact h | (change _ = _ at h; change _ = _; exact h), fun _ _ _ _ h => by first | exact h | (change _ = _ at h; change _ = _; exact h), fun _ _ _ hE ⟨B_114, h0_, h1_, e⟩ => ⟨B_114, h0_, (h1_.ext hE), e⟩, trivial⟩ ⟨?_, ?_, ?_, ?_, ?_, ?_, ?_, ?_, ?_, ?_, ?_, ?_, ?_, trivial⟩ ?_
        · intro a w hT
          have hAp := hT.ag hA84 [(0, .pointer (some d_1))] ⟨rfl, trivial⟩ (by kernel_rfl)
          exact opk_val hAp rfl (r_move (hAp.get rfl)) fun _ _ e => ⟨_, e, Chg.refl _ _, fun _ => Eq.refl _⟩
        · intro a w hT
          have hAp := hT.ag hA84 [] trivial (by kernel_rfl)
          have e89 : a.tmps.getD 37 undef = .pointer (some d_1) := hT.vals 0 rfl 37 rfl
          have hAp := hAp.add e89
          exact opk_val hAp rfl (r_nilCheck (hAp.get rfl)) fun _ _ e => ⟨_, e, Chg.refl _ _, fun _ => Eq.refl _⟩
        · intro a w hT
          have hAp := hT.ag hA84 [] trivial (by kernel_rfl)
          have e90 : a.tmps.getD 38 undef = .pointer (some d_1) := hT.vals 1 rfl 38 rfl
          have hAp := hAp.add e90
          exact opk_val hAp rfl (r_fieldAddr (hAp.get rfl) Try.underlying71 rfl ti_69 (by decide)) fun _ _ e => ⟨_, e, Chg.refl _ _, fun _ => Eq.refl _⟩
        · intro a w hT
          have hAp := hT.ag hA84 [] trivial (by kernel_rfl)
          have e91 : a.tmps.getD 39 undef = .pointer (some (d_1.add 0)) := hT.vals 2 rfl 39 rfl
          have hAp := hAp.add e91
          exact opk_val hAp rfl (r_load1 Try.underlying69 rfl (hAp.get rfl) (Ext.cell hT.chg hx93)) fun _ _ e => ⟨_, e, Chg.refl _ _, fun _ => Eq.refl _⟩
        · intro a w hT
          have hAp := hT.ag hA84 [(0, .pointer (some d_1))] ⟨rfl, trivial⟩ (by kernel_rfl)
          exact opk_val hAp rfl (r_move (hAp.get rfl)) fun _ _ e => ⟨_, e, Chg.refl _ _, fun _ => Eq.refl _⟩
        · intro a w hT
          have hAp := hT.ag hA84 [] trivial (by kernel_rfl)
          have e95 : a.tmps.getD 41 undef = .pointer (some d_1) := hT.vals 4 rfl 41 rfl
          have hAp := hAp.add e95
          exact opk_val hAp rfl (r_nilCheck (hAp.get rfl)) fun _ _ e => ⟨_, e, Chg.refl _ _, fun _ => Eq.refl _⟩
        · intro a w hT
          have hAp := hT.ag hA84 [] trivial (by kernel_rfl)
          have e96 : a.tmps.getD 42 undef = .pointer (some d_1) := hT.vals 5 rfl 42 rfl
          have hAp := hAp.add e96
          exact opk_val hAp rfl (r_fieldAddr (hAp.get rfl) Try.underlying71 rfl ti_69 (by decide)) fun _ _ e => ⟨_, e, Chg.refl _ _, fun _ => Eq.refl _⟩
        · intro a w hT
          have hAp := hT.ag hA84 [] trivial (by kernel_rfl)
          have e97 : a.tmps.getD 43 undef = .pointer (some (d_1.add 0)) := hT.vals 6 rfl 43 rfl
          have hAp := hAp.add e97
          exact opk_val hAp rfl (r_load1 Try.underlying69 rfl (hAp.get rfl) (Ext.cell hT.chg hx99)) fun _ _ e => ⟨_, e, Chg.refl _ _, fun _ => Eq.refl _⟩
        · intro a w hT
          have hAp := hT.ag hA84 [] trivial (by kernel_rfl)
          have e101 : a.tmps.getD 44 undef = Sl.v x_98 := hT.vals 7 rfl 44 rfl
          have hAp := hAp.add e101
          exact opk_val hAp rfl (r_len (hAp.get rfl) Try.underlying69) fun _ _ e => ⟨_, e, Chg.refl _ _, fun _ => Eq.refl _⟩
        · intro a w hT
          have hAp := hT.ag hA84 [] trivial (by kernel_rfl)
          have e102 : a.tmps.getD 45 undef = .int .i64 (x_98.n : Int) := hT.vals 8 rfl 45 rfl
          have hAp := hAp.add e102
          exact opk_val hAp rfl (r_subI (hAp.get rfl) rfl hS103) fun _ _ e => ⟨_, e, Chg.refl _ _, fun _ => Eq.refl _⟩
        · intro a w hT
          have hAp := hT.ag hA84 [] trivial (by kernel_rfl)
          have e105 : a.tmps.getD 40 undef = Sl.v x_92 := hT.vals 3 rfl 40 rfl
          have hAp := hAp.add e105
          have e106 : a.tmps.getD 46 undef = .int .i64 ((x_98.n : Int) - 1) := hT.vals 9 rfl 46 rfl
          have hAp := hAp.add e106
          exact opk_val hAp rfl (r_indexAddr (hAp.get rfl) (hAp.get rfl) Try.underlying69 ti_76 hp108.1 hp108.2) fun _ _ e => ⟨_, e, Chg.refl _ _, fun _ => Eq.refl _⟩
        · intro a w hT
          have hAp := hT.ag hA84 [] trivial (by kernel_rfl)
          have e110 : a.tmps.getD 47 undef = .pointer (some (p_107.add (((x_98.n : Int) - 1).toNat * 8))) := hT.vals 10 rfl 47 rfl
          have hAp := hAp.add e110
          exact opk_val hAp rfl (r_loadN Try.underlying76 rfl ti_76 (hAp.get rfl) (hx112.ext hT.chg)) fun _ _ e => ⟨_, e, Chg.refl _ _, fun _ => Eq.refl _⟩
        · intro a w hT
          have hAp := hT.ag hA84 [] trivial (by kernel_rfl)
          exact opk_new (fun B => .pointer (some ⟨B, 0, none⟩)) hAp rfl (r_alloc (cs := [.int .i64 0, .int .i64 0, .int .i64 0, .string (Bs ([] : Str)), .string (Bs ([] : Str)), Sl.v Sl.nil, Sl.v Sl.nil, Sl.v Sl.nil]) ti_76 rfl) fun _ w115 B_114 hE116 hN117 hB118 _ e => ⟨_, e, hE116, fun _ => ⟨B_114, Nat.le_trans hT.chg.size hN117.ge, hB118, rfl⟩⟩
        · intro a119 w120 hE121 hag122 hv123
          have hA119 := hag122 [(0, .pointer (some d_1)), (1, .int .i64 id_2), (6, .int .i64 r_80)] ⟨rfl, rfl, rfl, trivial⟩ (by kernel_rfl)
          have e125 : a119.tmps.getD 48 undef = .agg #[.int .i64 x_111_id, .int .i64 x_111_parent, .int .i64 x_111_t_Kind, .string (Bs x_111_t_Name), .string (Bs x_111_t_Text), Sl.v x_111_t_Attrs, Sl.v x_111_t_Kids, Sl.v x_111_kids] := hv123 11 rfl 48 rfl
          have hA126 := hA119.add e125
          obtain ⟨B_114, hf129, hf130, e127⟩ := hv123 12 rfl 7 rfl
          have hA128 := hA126.add e127
          have hC131 : Chg [] w85 w120 := hE121
          have ht132 := ht113 w120 B_114 hE121 hf129 hf130
          refine one (D := [[], [0], [0, 1], [0, 1, 2], [], [4], [4, 5], [4, 5, 6], [4, 5, 6, 7], [4, 5, 6, 7, 8], [0, 1, 2, 3, 4, 5, 6, 7, 8, 9], [0, 1, 2, 3, 4, 5, 6, 7, 8, 9, 10], [], [0, 1, 2, 3, 4, 5, 6, 7, 8, 9, 10, 11, 12]]) (i := 13) rfl (by kernel_rfl) (opk_store hA128 hf130 (r_store (vs := [.int .i64 x_111_id, .int .i64 x_111_parent, .int .i64 x_111_t_Kind, .string (Bs x_111_t_Name), .string (Bs x_111_t_Text), Sl.v x_111_t_Attrs, Sl.v x_111_t_Kids, Sl.v x_111_kids]) (hA128.get rfl) (hA128.get rfl) rfl ti_76 hf130 rfl (ones_all [.int .i64 x_111_id, .int .i64 x_111_parent, .int .i64 x_111_t_Kind, .string (Bs x_111_t_Name), .string (Bs x_111_t_Text), Sl.v x_111_t_Attrs, Sl.v x_111_t_Kids, Sl.v x_111_kids] rfl)) fun a134 w133 hS135 hB136 hA134 => ?_)
          have hB137 : Box w133 B_114 76 [.int .i64 x_111_id, .int .i64 x_111_parent, .int .i64 x_111_t_Kind, .string (Bs x_111_t_Name), .string (Bs x_111_t_Text), Sl.v x_111_t_Attrs, Sl.v x_111_t_Kids, Sl.v x_111_kids] := hB136
          have hC138 : Chg [B_114] w120 w133 := hS135
          refine PR_end (by kernel_rfl) ?_
          have hA139 := hA134.keep [(0, .pointer (some d_1)), (1, .int .i64 id_2), (6, .int .i64 r_80), (7, .pointer (some (⟨B_114, 0, none⟩ : Addr)))] ⟨rfl, rfl, rfl, rfl, trivial⟩
          refine then_normal ?_
          refine wp_seq ?_
          refine draw' (by kernel_rfl) fun w140 hE141 => ?_
          have hB142 := hB137.ext hE141
          have hC143 := hC138.more hE141
          have ht144 := ht132 w140    hC143
          obtain ⟨x_148, hx149, ht150⟩ := ht144
          obtain ⟨p_153, hp154, ht155⟩ := ht150
          refine par (D := [[], [0], [0, 1], [0, 1, 2], [], [], [0, 1, 2, 3, 4, 5], [0, 1, 2, 3, 4, 5, 6]]) (S := [0, 1, 2, 3, 4, 5, 6]) (F := []) (V := VL [(0, fun v _ => v = .pointer (some d_1)), (1, fun v _ => v = .pointer (some d_1)), (2, fun v _ => v = .pointer (some (d_1.add 0))), (3, fun v _ => v = Sl.v x_148), (4, fun v _ => v = .int .i64 r_80), (5, fun v _ => v = .agg #[.int .i64 x_111_id, .int .i64 x_111_parent, .int .i64 x_111_t_Kind, .string (Bs x_111_t_Name), .string (Bs x_111_t_Text), Sl.v x_111_t_Attrs, Sl.v x_111_t_Kids, Sl.v x_111_kids]), (6, fun v _ => v = .pointer (some (p_153.add (r_80.toNat * 8))))]) hA139 (by kernel_rfl) ⟨fun _ _ _ _ h => by first | exact h | (change _ = _ at h; change _ = _; exact h), fun _ _ _ _ h => by first | exact h | (change _ = _ at h; change _ = _; exact h), fun _ _ _ _ h => by first | exact h | (change _ = _ at h; change _ = _; exact h), fun _ _ _ _ h => by first | exact h | (change _ = _ at h; change _ = _; exact h), fun _ _ _ _ h => by first | exact h | (change _ = _ at h; change _ = _; exact h), fun _ _ _ _ h => by first | exact h | (change _ = _ at h; change _ = _; exact h), fun _ _ _ _ h => by first | exact h | (change _ = _ at h; change _ = _; exact h), trivial⟩ ⟨?_, ?_, ?_, ?_, ?_, ?_, ?_, trivial⟩ ?_
          · intro a w hT
            have hAp := hT.ag hA139 [(0, .pointer (some d_1))] ⟨rfl, trivial⟩ (by kernel_rfl)
            exact opk_val hAp rfl (r_move (hAp.get rfl)) fun _ _ e => ⟨_, e, Chg.refl _ _, fun _ => Eq.refl _⟩
          · intro a w hT
            have hAp := hT.ag hA139 [] trivial (by kernel_rfl)
            have e145 : a.tmps.getD 49 undef = .pointer (some d_1) := hT.vals 0 rfl 49 rfl
            have hAp := hAp.add e145
            exact opk_val hAp rfl (r_nilCheck (hAp.get rfl)) fun _ _ e => ⟨_, e, Chg.refl _ _, fun _ => Eq.refl _⟩
          · intro a w hT
            have hAp := hT.ag hA139 [] trivial (by kernel_rfl)
            have e146 : a.tmps.getD 50 undef = .pointer (some d_1) := hT.vals 1 rfl 50 rfl
            have hAp := hAp.add e146
            exact opk_val hAp rfl (r_fieldAddr (hAp.get rfl) Try.underlying71 rfl ti_69 (by decide)) fun _ _ e => ⟨_, e, Chg.refl _ _, fun _ => Eq.refl _⟩
          · intro a w hT
            have hAp := hT.ag hA139 [] trivial (by kernel_rfl)
            have e147 : a.tmps.getD 51 undef = .pointer (some (d_1.add 0)) := hT.vals 2 rfl 51 rfl
            have hAp := hAp.add e147
            exact opk_val hAp rfl (r_load1 Try.underlying69 rfl (hAp.get rfl) (Ext.cell hT.chg hx149)) fun _ _ e => ⟨_, e, Chg.refl _ _, fun _ => Eq.refl _⟩
          · intro a w hT
            have hAp := hT.ag hA139 [(6, .int .i64 r_80)] ⟨rfl, trivial⟩ (by kernel_rfl)
            exact opk_val hAp rfl (r_move (hAp.get rfl)) fun _ _ e => ⟨_, e, Chg.refl _ _, fun _ => Eq.refl _⟩
          · intro a w hT
            have hAp := hT.ag hA139 [(7, .pointer (some (⟨B_114, 0, none⟩ : Addr)))] ⟨rfl, trivial⟩ (by kernel_rfl)
            exact opk_val hAp rfl (r_loadN (cs := [.int .i64 x_111_id, .int .i64 x_111_parent, .int .i64 x_111_t_Kind, .string (Bs x_111_t_Name), .string (Bs x_111_t_Text), Sl.v x_111_t_Attrs, Sl.v x_111_t_Kids, Sl.v x_111_kids]) Try.underlying76 rfl ti_76 (hAp.get rfl) ((hB142.ext hT.chg).part 0 _ rfl)) fun _ _ e => ⟨_, e, Chg.refl _ _, fun _ => Eq.refl _⟩
          · intro a w hT
            have hAp := hT.ag hA139 [] trivial (by kernel_rfl)
            have e151 : a.tmps.getD 52 undef = Sl.v x_148 := hT.vals 3 rfl 52 rfl
            have hAp := hAp.add e151
            have e152 : a.tmps.getD 53 undef = .int .i64 r_80 := hT.vals 4 rfl 53 rfl
            have hAp := hAp.add e152
            exact opk_val hAp rfl (r_indexAddr (hAp.get rfl) (hAp.get rfl) Try.underlying69 ti_76 hp154.1 hp154.2) fun _ _ e => ⟨_, e, Chg.refl _ _, fun _ => Eq.refl _⟩
          · intro a156 w157 hE158 hag159 hv160
            have hA156 := hag159 [(0, .pointer (some d_1)), (1, .int .i64 id_2), (6, .int .i64 r_80), (7, .pointer (some (⟨B_114, 0, none⟩ : Addr)))] ⟨rfl, rfl, rfl, rfl, trivial⟩ (by kernel_rfl)
            have e162 : a156.tmps.getD 54 undef = .agg #[.int .i64 x_111_id, .int .i64 x_111_parent, .int .i64 x_111_t_Kind, .string (Bs x_111_t_Name), .string (Bs x_111_t_Text), Sl.v x_111_t_Attrs, Sl.v x_111_t_Kids, Sl.v x_111_kids] := hv160 5 rfl 54 rfl
            have hA163 := hA156.add e162
            have e164 : a156.tmps.getD 55 undef = .pointer (some (p_153.add (r_80.toNat * 8))) := hv160 6 rfl 55 rfl
            have hA165 := hA163.add e164
            have hB166 := hB142.ext hE158
            have hC167 : Chg [] w140 w157 := hE158
            have ht172 := ht155 w157    hC167
            obtain ⟨B_173, o_174, T_175, cs_176, he177, hb178, hl179, hx180, ht181⟩ := ht172
            refine one (D := [[], [0], [0, 1], [0, 1, 2], [], [], [0, 1, 2, 3, 4, 5], [0, 1, 2, 3, 4, 5, 6]]) (i := 7) rfl (by kernel_rfl) (opk_store hA165 hb178 (r_store (vs := [.int .i64 x_111_id, .int .i64 x_111_parent, .int .i64 x_111_t_Kind, .string (Bs x_111_t_Name), .string (Bs x_111_t_Text), Sl.v x_111_t_Attrs, Sl.v x_111_t_Kids, Sl.v x_111_kids]) (((hA165.get rfl)).trans (congrArg (fun a => Value.pointer (some a)) he177)) (hA165.get rfl) rfl ti_76 hb178 (Nat.ble_eq_true_of_le hl179) (ones_all [.int .i64 x_111_id, .int .i64 x_111_parent, .int .i64 x_111_t_Kind, .string (Bs x_111_t_Name), .string (Bs x_111_t_Text), Sl.v x_111_t_Attrs, Sl.v x_111_t_Kids, Sl.v x_111_kids] rfl)) fun a169 w168 hS170 hB171 hA169 => ?_)
            have hB182 := hB166.keep hS170 (by have := hx180 B_114 (by simp); simpa using this)
            have ht183 := ht181 w168 hS170 hB171
            refine PR_end (by kernel_rfl) ?_
            have hA184 := hA169.keep [(0, .pointer (some d_1)), (1, .int .i64 id_2), (6, .int .i64 r_80), (7, .pointer (some (⟨B_114, 0, none⟩ : Addr)))] ⟨rfl, rfl, rfl, rfl, trivial⟩
            refine then_normal ?_
            refine wp_seq ?_
            refine draw' (by kernel_rfl) fun w185 hE186 => ?_
            have hB187 := hB182.ext hE186
            have hC188 : Chg [] w168 w185 := hE186
            have ht189 := ht183 w185    hC188
            obtain ⟨x_193, hx194, ht195⟩ := ht189
            refine par (D := [[], [0], [0, 1], [0, 1, 2], [], [4], [], [0, 1, 2, 3, 4, 5, 6]]) (S := [0, 1, 2, 3, 4, 5, 6]) (F := []) (V := VL [(0, fun v _ => v = .pointer (some d_1)), (1, fun v _ => v = .pointer (some d_1)), (2, fun v _ => v = .pointer (some (d_1.add 1))), (3, fun v _ => v = .map x_193), (4, fun v _ => v = .pointer (some (⟨B_114, 0, none⟩ : Addr))), (5, fun v _ => v = .int .i64 x_111_id), (6, fun v _ => v = .int .i64 r_80)]) hA184 (by kernel_rfl) ⟨fun _ _ _ _ h => by first | exact h | (change _ = _ at h; change _ = _; exact h), fun _ _ _ _ h => by first | exact h | (change _ = _ at h; change _ = _; exact h), fun _ _ _ _ h => by first | exact h | (change _ = _ at h; change _ = _; exact h), fun _ _ _ _ h => by first | exact h | (change _ = _ at h; change _ = _; exact h), fun _ _ _ _ h => by first | exact h | (change _ = _ at h; change _ = _; exact h), fun _ _ _ _ h => by first | exact h | (change _ = _ at h; change _ = _; exact h), fun _ _ _ _ h => by first | exact h | (change _ = _ at h; change _ = _; exact h), trivial⟩ ⟨?_, ?_, ?_, ?_, ?_, ?_, ?_, trivial⟩ ?_
            · intro a w hT
              have hAp := hT.ag hA184 [(0, .pointer (some d_1))] ⟨rfl, trivial⟩ (by kernel_rfl)
              exact opk_val hAp rfl (r_move (hAp.get rfl)) fun _ _ e => ⟨_, e, Chg.refl _ _, fun _ => Eq.refl _⟩
            · intro a w hT
              have hAp := hT.ag hA184 [] trivial (by kernel_rfl)
              have e190 : a.tmps.getD 56 undef = .pointer (some d_1) := hT.vals 0 rfl 56 rfl
              have hAp := hAp.add e190
              exact opk_val hAp rfl (r_nilCheck (hAp.get rfl)) fun _ _ e => ⟨_, e, Chg.refl _ _, fun _ => Eq.refl _⟩
            · intro a w hT
              have hAp := hT.ag hA184 [] trivial (by kernel_rfl)
              have e191 : a.tmps.getD 57 undef = .pointer (some d_1) := hT.vals 1 rfl 57 rfl
              have hAp := hAp.add e191
              exact opk_val hAp rfl (r_fieldAddr (hAp.get rfl) Try.underlying71 rfl ti_68 (by decide)) fun _ _ e => ⟨_, e, Chg.refl _ _, fun _ => Eq.refl _⟩
            · intro a w hT
              have hAp := hT.ag hA184 [] trivial (by kernel_rfl)
              have e192 : a.tmps.getD 58 undef = .pointer (some (d_1.add 1)) := hT.vals 2 rfl 58 rfl
              have hAp := hAp.add e192
              exact opk_val hAp rfl (r_load1 Try.underlying68 rfl (hAp.get rfl) (Ext.cell hT.chg hx194)) fun _ _ e => ⟨_, e, Chg.refl _ _, fun _ => Eq.refl _⟩
            · intro a w hT
              have hAp := hT.ag hA184 [(7, .pointer (some (⟨B_114, 0, none⟩ : Addr)))] ⟨rfl, trivial⟩ (by kernel_rfl)
              exact opk_val hAp rfl (r_fieldAddr (hAp.get rfl) Try.underlying76 rfl ti_3 (by decide)) fun _ _ e => ⟨_, e, Chg.refl _ _, fun _ => Eq.refl _⟩
            · intro a w hT
              have hAp := hT.ag hA184 [] trivial (by kernel_rfl)
              have e196 : a.tmps.getD 60 undef = .pointer (some (⟨B_114, 0, none⟩ : Addr)) := hT.vals 4 rfl 60 rfl
              have hAp := hAp.add e196
              exact opk_val hAp rfl (r_load1 Try.underlying3 rfl (hAp.get rfl) ((hB187.ext hT.chg).cell 0 _ rfl)) fun _ _ e => ⟨_, e, Chg.refl _ _, fun _ => Eq.refl _⟩
            · intro a w hT
              have hAp := hT.ag hA184 [(6, .int .i64 r_80)] ⟨rfl, trivial⟩ (by kernel_rfl)
              exact opk_val hAp rfl (r_move (hAp.get rfl)) fun _ _ e => ⟨_, e, Chg.refl _ _, fun _ => Eq.refl _⟩
            · intro a197 w198 hE199 hag200 hv201
              have hA197 := hag200 [(0, .pointer (some d_1)), (1, .int .i64 id_2)] ⟨rfl, rfl, trivial⟩ (by kernel_rfl)
              have e203 : a197.tmps.getD 59 undef = .map x_193 := hv201 3 rfl 59 rfl
              have hA204 := hA197.add e203
              have e205 : a197.tmps.getD 61 undef = .int .i64 x_111_id := hv201 5 rfl 61 rfl
              have hA206 := hA204.add e205
              have e207 : a197.tmps.getD 62 undef = .int .i64 r_80 := hv201 6 rfl 62 rfl
              have hA208 := hA206.add e207
              have hB209 := hB187.ext hE199
              have hC210 : Chg [] w185 w198 := hE199
              have ht211 := ht195 w198    hC210
              refine one (D := [[], [0], [0, 1], [0, 1, 2], [], [4], [], [0, 1, 2, 3, 4, 5, 6]]) (i := 7) rfl (by kernel_rfl) (opk_runU hA208 (fun _ hr => r_mapUpdate (hA208.get rfl) (hA208.get rfl) (hA208.get rfl) hr) ht211 fun a212 w213 hA212 hn215 hz216 ht214 => ?_)
              have hB217 := hB209.kept hn215 (.head _)
              refine PR_end (by kernel_rfl) ?_
              have hA218 := hA212.keep [(0, .pointer (some d_1)), (1, .int .i64 id_2)] ⟨rfl, rfl, trivial⟩
              refine then_normal ?_
              refine wp_seq ?_
              refine wp_region_lit ?_
              refine sq (opk_val hA218 rfl (r_move (hA218.get rfl)) fun a219 hA219 _ => ?_)
              refine sq (opk_val hA219 rfl (r_nilCheck (hA219.get rfl)) fun a220 hA220 _ => ?_)
              refine sq (opk_val hA220 rfl (r_fieldAddr (hA220.get rfl) Try.underlying71 rfl ti_68 (by decide)) fun a221 hA221 _ => ?_)
              obtain ⟨x_223, hx224, ht225⟩ := ht214
              refine sq (opk_val hA221 rfl (r_load1 Try.underlying68 rfl (hA221.get rfl) hx224) fun a222 hA222 _ => ?_)
              refine sq (opk_val hA222 rfl (r_move (hA222.get rfl)) fun a226 hA226 _ => ?_)
              refine sq (opk_runN hA226 (fun _ hr => r_delete (hA226.get rfl) (hA226.get rfl) hr) ht225 fun a227 w228 hA227 hn230 hz231 ht229 => ?_)
              refine sq_end ?_
              have hA232 := hA227.keep [(0, .pointer (some d_1))] ⟨rfl, trivial⟩
              refine then_normal ?_
              refine wp_seq ?_
              refine draw' (by kernel_rfl) fun w233 hE234 => ?_
              have hC235 : Chg [] w228 w233 := hE234
              have ht236 := ht229 w233    hC235
              obtain ⟨x_240, hx241, ht242⟩ := ht236
              obtain ⟨x_246, hx247, ht248⟩ := ht242
              obtain ⟨hS251, ht252⟩ := ht248
              obtain ⟨hS255, ht256⟩ := ht252
              refine par (D := [[], [], [1], [1, 2], [1, 2, 3], [], [5], [5, 6], [5, 6, 7], [5, 6, 7, 8], [5, 6, 7, 8, 9], [1, 2, 3, 4, 5, 6, 7, 8, 9, 10], [0, 1, 2, 3, 4, 5, 6, 7, 8, 9, 10, 11], [0, 1, 2, 3, 4, 5, 6, 7, 8, 9, 10, 11, 12], [0, 1, 2, 3, 4, 5, 6, 7, 8, 9, 10, 11, 12, 13]]) (S := [0, 1, 2, 3, 4, 5, 6, 7, 8, 9, 10, 11, 12, 13]) (F := []) (V := VL [(0, fun v _ => v = .pointer (some d_1)), (1, fun v _ => v = .pointer (some d_1)), (2, fun v _ => v = .pointer (some d_1)), (3, fun v _ => v = .pointer (some (d_1.add 0))), (4, fun v _ => v = Sl.v x_240), (5, fun v _ => v = .pointer (some d_1)), (6, fun v _ => v = .pointer (some d_1)), (7, fun v _ => v = .pointer (some (d_1.add 0))), (8, fun v _ => v = Sl.v x_246), (9, fun v _ => v = .int .i64 (x_246.n : Int)), (10, fun v _ => v = .int .i64 ((x_246.n : Int) - 1)), (11, fun v _ => v = Sl.v (Sl.cut x_240 8 0 ((x_246.n : Int) - 1).toNat x_240.c)), (12, fun v _ => v = .pointer (some d_1)), (13, fun v _ => v = .pointer (some (d_1.add 0)))]) hA232 (by kernel_rfl) ⟨fun _ _ _ _ h => by first | exact h | (change _ = _ at h; change _ = _; exact h), fun _ _ _ _ h => by first | exact h | (change _ = _ at h; change _ = _; exact h), fun _ _ _ _ h => by first | exact h | (change _ = _ at h; change _ = _; exact h), fun _ _ _ _ h => by first | exact h | (change _ = _ at h; change _ = _; exact h), fun _ _ _ _ h => by first | exact h | (change _ = _ at h; change _ = _; exact h), fun _ _ _ _ h => by first | exact h | (change _ = _ at h; change _ = _; exact h), fun _ _ _ _ h => by first | exact h | (change _ = _ at h; change _ = _; exact h), fun _ _ _ _ h => by first | exact h | (change _ = _ at h; change _ = _; exact h), fun _ _ _ _ h => by first | exact h | (change _ = _ at h; change _ = _; exact h), fun _ _ _ _ h => by first | exact h | (change _ = _ at h; change _ = _; exact h), fun _ _ _ _ h => by first | exact h | (change _ = _ at h; change _ = _; exact h), fun _ _ _ _ h => by first | exact h | (change _ = _ at h; change _ = _; exact h), fun _ _ _ _ h => by first | exact h | (change _ = _ at h; change _ = _; exact h), fun _ _ _ _ h => by first | exact h | (change _ = _ at h; change _ = _; exact h), trivial⟩ ⟨?_, ?_, ?_, ?_, ?_, ?_, ?_, ?_, ?_, ?_, ?_, ?_, ?_, ?_, trivial⟩ ?_
              · intro a w hT
                have hAp := hT.ag hA232 [(0, .pointer (some d_1))] ⟨rfl, trivial⟩ (by kernel_rfl)
                exact opk_val hAp rfl (r_move (hAp.get rfl)) fun _ _ e => ⟨_, e, Chg.refl _ _, fun _ => Eq.refl _⟩
              · intro a w hT
                have hAp := hT.ag hA232 [(0, .pointer (some d_1))] ⟨rfl, trivial⟩ (by kernel_rfl)
                exact opk_val hAp rfl (r_move (hAp.get rfl)) fun _ _ e => ⟨_, e, Chg.refl _ _, fun _ => Eq.refl _⟩
              · intro a w hT
                have hAp := hT.ag hA232 [] trivial (by kernel_rfl)
                have e237 : a.tmps.getD 69 undef = .pointer (some d_1) := hT.vals 1 rfl 69 rfl
                have hAp := hAp.add e237
                exact opk_val hAp rfl (r_nilCheck (hAp.get rfl)) fun _ _ e => ⟨_, e, Chg.refl _ _, fun _ => Eq.refl _⟩
              · intro a w hT
                have hAp := hT.ag hA232 [] trivial (by kernel_rfl)
                have e238 : a.tmps.getD 70 undef = .pointer (some d_1) := hT.vals 2 rfl 70 rfl
                have hAp := hAp.add e238
                exact opk_val hAp rfl (r_fieldAddr (hAp.get rfl) Try.underlying71 rfl ti_69 (by decide)) fun _ _ e => ⟨_, e, Chg.refl _ _, fun _ => Eq.refl _⟩
              · intro a w hT
                have hAp := hT.ag hA232 [] trivial (by kernel_rfl)
                have e239 : a.tmps.getD 71 undef = .pointer (some (d_1.add 0)) := hT.vals 3 rfl 71 rfl
                have hAp := hAp.add e239
                exact opk_val hAp rfl (r_load1 Try.underlying69 rfl (hAp.get rfl) (Ext.cell hT.chg hx241)) fun _ _ e => ⟨_, e, Chg.refl _ _, fun _ => Eq.refl _⟩
              · intro a w hT
                have hAp := hT.ag hA232 [(0, .pointer (some d_1))] ⟨rfl, trivial⟩ (by kernel_rfl)
                exact opk_val hAp rfl (r_move (hAp.get rfl)) fun _ _ e => ⟨_, e, Chg.refl _ _, fun _ => Eq.refl _⟩
              · intro a w hT
                have hAp := hT.ag hA232 [] trivial (by kernel_rfl)
                have e243 : a.tmps.getD 73 undef = .pointer (some d_1) := hT.vals 5 rfl 73 rfl
                have hAp := hAp.add e243
                exact opk_val hAp rfl (r_nilCheck (hAp.get rfl)) fun _ _ e => ⟨_, e, Chg.refl _ _, fun _ => Eq.refl _⟩
              · intro a w hT
                have hAp := hT.ag hA232 [] trivial (by kernel_rfl)
                have e244 : a.tmps.getD 74 undef = .pointer (some d_1) := hT.vals 6 rfl 74 rfl
                have hAp := hAp.add e244
                exact opk_val hAp rfl (r_fieldAddr (hAp.get rfl) Try.underlying71 rfl ti_69 (by decide)) fun _ _ e => ⟨_, e, Chg.refl _ _, fun _ => Eq.refl _⟩
              · intro a w hT
                have hAp := hT.ag hA232 [] trivial (by kernel_rfl)
                have e245 : a.tmps.getD 75 undef = .pointer (some (d_1.add 0)) := hT.vals 7 rfl 75 rfl
                have hAp := hAp.add e245
                exact opk_val hAp rfl (r_load1 Try.underlying69 rfl (hAp.get rfl) (Ext.cell hT.chg hx247)) fun _ _ e => ⟨_, e, Chg.refl _ _, fun _ => Eq.refl _⟩
              · intro a w hT
                have hAp := hT.ag hA232 [] trivial (by kernel_rfl)
                have e249 : a.tmps.getD 76 undef = Sl.v x_246 := hT.vals 8 rfl 76 rfl
                have hAp := hAp.add e249
                exact opk_val hAp rfl (r_len (hAp.get rfl) Try.underlying69) fun _ _ e => ⟨_, e, Chg.refl _ _, fun _ => Eq.refl _⟩
              · intro a w hT
                have hAp := hT.ag hA232 [] trivial (by kernel_rfl)
                have e250 : a.tmps.getD 77 undef = .int .i64 (x_246.n : Int) := hT.vals 9 rfl 77 rfl
                have hAp := hAp.add e250
                exact opk_val hAp rfl (r_subI (hAp.get rfl) rfl hS251) fun _ _ e => ⟨_, e, Chg.refl _ _, fun _ => Eq.refl _⟩
              · intro a w hT
                have hAp := hT.ag hA232 [] trivial (by kernel_rfl)
                have e253 : a.tmps.getD 72 undef = Sl.v x_240 := hT.vals 4 rfl 72 rfl
                have hAp := hAp.add e253
                have e254 : a.tmps.getD 78 undef = .int .i64 ((x_246.n : Int) - 1) := hT.vals 10 rfl 78 rfl
                have hAp := hAp.add e254
                exact opk_val hAp rfl (r_sliceH (hAp.get rfl) (hAp.get rfl) Try.underlying69 ti_76 hS255) fun _ _ e => ⟨_, e, Chg.refl _ _, fun _ => Eq.refl _⟩
              · intro a w hT
                have hAp := hT.ag hA232 [] trivial (by kernel_rfl)
                have e257 : a.tmps.getD 68 undef = .pointer (some d_1) := hT.vals 0 rfl 68 rfl
                have hAp := hAp.add e257
                exact opk_val hAp rfl (r_nilCheck (hAp.get rfl)) fun _ _ e => ⟨_, e, Chg.refl _ _, fun _ => Eq.refl _⟩
              · intro a w hT
                have hAp := hT.ag hA232 [] trivial (by kernel_rfl)
                have e258 : a.tmps.getD 80 undef = .pointer (some d_1) := hT.vals 12 rfl 80 rfl
                have hAp := hAp.add e258
                exact opk_val hAp rfl (r_fieldAddr (hAp.get rfl) Try.underlying71 rfl ti_69 (by decide)) fun _ _ e => ⟨_, e, Chg.refl _ _, fun _ => Eq.refl _⟩
              · intro a259 w260 hE261 hag262 hv263
                have hA259 := hag262 [] trivial (by kernel_rfl)
                have e265 : a259.tmps.getD 79 undef = Sl.v (Sl.cut x_240 8 0 ((x_246.n : Int) - 1).toNat x_240.c) := hv263 11 rfl 79 rfl
                have hA266 := hA259.add e265
                have e267 : a259.tmps.getD 81 undef = .pointer (some (d_1.add 0)) := hv263 13 rfl 81 rfl
                have hA268 := hA266.add e267
                have hC269 : Chg [] w233 w260 := hE261
                have ht274 := ht256 w260    hC269
                obtain ⟨B_275, o_276, T_277, cs_278, he279, hb280, hl281, hx282, ht283⟩ := ht274
                refine one (D := [[], [], [1], [1, 2], [1, 2, 3], [], [5], [5, 6], [5, 6, 7], [5, 6, 7, 8], [5, 6, 7, 8, 9], [1, 2, 3, 4, 5, 6, 7, 8, 9, 10], [0, 1, 2, 3, 4, 5, 6, 7, 8, 9, 10, 11], [0, 1, 2, 3, 4, 5, 6, 7, 8, 9, 10, 11, 12], [0, 1, 2, 3, 4, 5, 6, 7, 8, 9, 10, 11, 12, 13]]) (i := 14) rfl (by kernel_rfl) (opk_store hA268 hb280 (r_store (vs := [Sl.v (Sl.cut x_240 8 0 ((x_246.n : Int) - 1).toNat x_240.c)]) (((hA268.get rfl)).trans (congrArg (fun a => Value.pointer (some a)) he279)) (hA268.get rfl) rfl ti_69 hb280 (Nat.ble_eq_true_of_le hl281) (ones_all [Sl.v (Sl.cut x_240 8 0 ((x_246.n : Int) - 1).toNat x_240.c)] rfl)) fun a271 w270 hS272 hB273 hA271 => ?_)
                have ht284 := ht283 w270 hS272 hB273
                refine PR_end (by kernel_rfl) ?_
                have hA285 := hA271.keep [] trivial
                refine then_normal ?_
                refine wp_seq ?_
                refine wp_region_lit ?_
                refine sq (opk_val hA285 rfl (r_assign rfl) fun a286 hA286 _ => ?_)
                refine sq_end ?_
                have hA287 := hA286.keep [(4, .int .i64 0)] ⟨rfl, trivial⟩
                refine then_normal ?_
                refine wp_ret ?_
                exact res_all (vs := [.int .i64 0]) rfl hA287 ⟨res_of_tmp hA287 rfl, trivial⟩ ht284

/-- The condition of (*topiary/dom.Dom).Has. -/
def dom_Dom_Has.vc (d_1 : Addr) (id_2 : Int) (R : Value → World → Prop) (w : World) : Prop :=
CallK Try.prog 45 #[.pointer (some d_1), .int .i64 id_2] w [] (fun v w9 => ∃ (r_7 : Option Addr), v = .pointer r_7 ∧
R (.bool (!(Option.isNone r_7))) w9)
set_option maxHeartbeats 1000000 in
set_option maxRecDepth 10000 in
theorem dom_Dom_Has.ok (d_1 : Addr) (id_2 : Int) {R : Value → World → Prop} {w : World} (ht0 : dom_Dom_Has.vc d_1 id_2 R w) : Calls Try.prog 23 #[.pointer (some d_1), .int .i64 id_2] w (Ret R) := by
  refine enter [.pointer (some d_1), .int .i64 id_2] Try.func23 rfl Try.ntmps23 rfl ?_
  intro a0 hA0
  unfold dom_Dom_Has.vc at ht0
  refine wp_seq ?_
  refine wp_region_lit ?_
  refine sq (opk_val hA0 rfl (r_assign rfl) fun a3 hA3 _ => ?_)
  refine sq_end ?_
  have hA4 := hA3.keep [(0, .pointer (some d_1)), (1, .int .i64 id_2)] ⟨rfl, rfl, trivial⟩
  refine then_normal ?_
  refine wp_seq ?_
  refine wp_region_lit ?_
  refine sq (opk_val hA4 rfl (r_move (hA4.get rfl)) fun a5 hA5 _ => ?_)
  refine sq (opk_val hA5 rfl (r_move (hA5.get rfl)) fun a6 hA6 _ => ?_)
  refine sq (opk_call hA6 rfl (r_call (args := #[.pointer (some d_1), .int .i64 id_2]) Try.func45 (by decide) rfl (map_arr (ml_cons (hA6.get rfl) (ml_cons (hA6.get rfl) ml_nil))) rfl) ht0 fun a8 v14 w9 hA8 _ hn11 hz12 hK13 => ?_)
  obtain ⟨r_7, rfl, ht10⟩ := hK13
  refine sq (opk_val hA8 rfl (r_pnnil (o := r_7) (hA8.get rfl) rfl Try.underlying73) fun a15 hA15 _ => ?_)
  refine sq (opk_val hA15 rfl (r_assign (hA15.get rfl)) fun a16 hA16 _ => ?_)
  refine sq_end ?_
  have hA17 := hA16.keep [(4, .bool (!(Option.isNone r_7)))] ⟨rfl, trivial⟩
  refine then_normal ?_
  refine wp_ret ?_
  exact res_all (vs := [.bool (!(Option.isNone r_7))]) rfl hA17 ⟨res_of_tmp hA17 rfl, trivial⟩ ht10

/-- The condition of (*topiary/dom.Dom).Move. -/
def dom_Dom_Move.vc (d_1 : Addr) (id_2 : Int) (parent_3 : Int) (at_4 : Int) (R : Value → World → Prop) (w : World) : Prop :=
CallK Try.prog 45 #[.pointer (some d_1), .int .i64 id_2] w [] (fun v w11 => ∃ (r_9 : Option Addr), v = .pointer r_9 ∧
CallK Try.prog 45 #[.pointer (some d_1), .int .i64 parent_3] w11 [] (fun v w21 => ∃ (r_19 : Option Addr), v = .pointer r_19 ∧
((((Option.isNone r_9) = true) ∨ ((Option.isNone r_19) = true)) →
R (.int .i64 3) w21) ∧
((((Option.isNone r_9) = false) ∧ ((Option.isNone r_19) = false)) →
∃ p_44 : Addr, (r_9 = some p_44) ∧
∃ (x_50 : Int), (w21.cell? ((p_44.add 2).add 0) = some (.int .i64 x_50)) ∧
∃ p_58 : Addr, (((¬ (x_50 = 1))) → r_9 = some p_58) ∧
∃ (x_64 : Int), (((¬ (x_50 = 1))) → w21.cell? ((p_58.add 2).add 0) = some (.int .i64 x_64)) ∧
∃ (r_67 : Bool), (((¬ (x_50 = 1))) → Calls Try.prog 46 #[.pointer r_19, .int .i64 x_64] w21 (Ret fun v w' => Ext w21 w' ∧ v = .bool r_67)) ∧
(∀ w69 : World, Ext w21 w69 →
(((x_50 = 1) ∨ (r_67 = false)) →
R (.int .i64 4) w69) ∧
(((¬ (x_50 = 1)) ∧ (r_67 = true)) →
CallK Try.prog 59 #[.pointer (some d_1), .int .i64 id_2, .int .i64 parent_3] w69 [] (fun v w88 => ∃ (r_86 : Bool), v = .bool r_86 ∧
((r_86 = true) →
R (.int .i64 6) w88) ∧
((r_86 = false) →
∃ p_102 : Addr, (r_19 = some p_102) ∧
∃ (x_107 : Sl), (w88.cell? (p_102.add 7) = some (Sl.v x_107)) ∧
∃ p_115 : Addr, (r_9 = some p_115) ∧
∃ (x_120 : Int), (w88.cell? (p_115.add 1) = some (.int .i64 x_120)) ∧
∃ J_136 : Int → World → Prop,
(((x_120 = parent_3) →
(I64 ((x_107.n : Int) - 1)) ∧
J_136 ((x_107.n : Int) - 1) w88) ∧
((¬ (x_120 = parent_3)) →
J_136 (x_107.n : Int) w88)) ∧
(∀ (rest_134 : Int) (w135 : World), J_136 rest_134 w135 →
(((at_4 < 0) ∨ (rest_134 < at_4)) →
R (.int .i64 5) w135) ∧
(((¬ (at_4 < 0)) ∧ (¬ (rest_134 < at_4))) →
CallK Try.prog 47 #[.pointer (some d_1), .int .i64 parent_3] w135 [] (fun v w168 => ∃ (r_166 : Int), v = .int .i64 r_166 ∧
CallK Try.prog 60 #[.pointer (some d_1), .int .i64 id_2] w168 [] (fun v w178 => ∃ (r_176 : Int), v = .int .i64 r_176 ∧
(I64 (r_166 + r_176)) ∧
((60 < (r_166 + r_176)) →
R (.int .i64 2) w178) ∧
((¬ (60 < (r_166 + r_176))) →
CallK Try.prog 57 #[.pointer (some d_1), .int .i64 id_2] w178 [] (fun v w197 => v = .tuple #[] ∧
∃ p_207 : Addr, (r_9 = some p_207) ∧
∃ (B_215 o_216 : Nat) (T_217 : TypeId) (cs_218 : List Value), (p_207.add 1) = ⟨B_215, o_216, none⟩ ∧ Box w197 B_215 T_217 cs_218 ∧ o_216 + 1 ≤ cs_218.length ∧ (∀ b ∈ [], b ≠ B_215) ∧
(∀ w211 : World, Chg [B_215] w197 w211 → Box w211 B_215 T_217 (putAt cs_218 o_216 [.int .i64 parent_3]) →
∃ p_229 : Addr, (r_19 = some p_229) ∧
∃ (x_234 : Sl), (w211.cell? (p_229.add 7) = some (Sl.v x_234)) ∧
∀ (w240 : World) (B_239 : Nat), New w211 B_239 w240 → Chg [] w211 w240 →
∀ (_ : Box w240 B_239 3 [.int .i64 id_2]),
CallK Try.prog 49 #[Sl.v x_234, .int .i64 at_4, Sl.v (Sl.mk (some ⟨B_239, 0, none⟩) 1 1)] w240 [] (fun v w251 => ∃ (r_249 : Sl), v = Sl.v r_249 ∧
∃ p_258 : Addr, (r_19 = some p_258) ∧
∃ (B_266 o_267 : Nat) (T_268 : TypeId) (cs_269 : List Value), (p_258.add 7) = ⟨B_266, o_267, none⟩ ∧ Box w251 B_266 T_268 cs_269 ∧ o_267 + 1 ≤ cs_269.length ∧ (∀ b ∈ [], b ≠ B_266) ∧
(∀ w262 : World, Chg [B_266] w251 w262 → Box w262 B_266 T_268 (putAt cs_269 o_267 [Sl.v r_249]) →
R (.int .i64 0) w262))))))))))))))))
set_option maxHeartbeats 1000000 in
set_option maxRecDepth 10000 in
theorem dom_Dom_Move.ok (d_1 : Addr) (id_2 : Int) (parent_3 : Int) (at_4 : Int) {R : Value → World → Prop} {w : World} (ht0 : dom_Dom_Move.vc d_1 id_2 parent_3 at_4 R w) : Calls Try.prog 26 #[.pointer (some d_1), .int .i64 id_2, .int .i64 parent_3, .int .i64 at_4] w (Ret R) := by
  refine enter [.pointer (some d_1), .int .i64 id_2, .int .i64 parent_3, .int .i64 at_4] Try.func26 rfl Try.ntmps26 rfl ?_
  intro a0 hA0
  unfold dom_Dom_Move.vc at ht0
  refine wp_seq ?_
  refine wp_region_lit ?_
  refine sq (opk_val hA0 rfl (r_assign rfl) fun a5 hA5 _ => ?_)
  refine sq_end ?_
  have hA6 := hA5.keep [(0, .pointer (some d_1)), (1, .int .i64 id_2), (2, .int .i64 parent_3), (3, .int .i64 at_4)] ⟨rfl, rfl, rfl, rfl, trivial⟩
  refine then_normal ?_
  refine wp_seq ?_
  refine wp_region_lit ?_
  refine sq (opk_val hA6 rfl (r_move (hA6.get rfl)) fun a7 hA7 _ => ?_)
  refine sq (opk_val hA7 rfl (r_move (hA7.get rfl)) fun a8 hA8 _ => ?_)
  refine sq (opk_call hA8 rfl (r_call (args := #[.pointer (some d_1), .int .i64 id_2]) Try.func45 (by decide) rfl (map_arr (ml_cons (hA8.get rfl) (ml_cons (hA8.get rfl) ml_nil))) rfl) ht0 fun a10 v16 w11 hA10 _ hn13 hz14 hK15 => ?_)
  obtain ⟨r_9, rfl, ht12⟩ := hK15
  refine sq (opk_val hA10 rfl (r_move (hA10.get rfl)) fun a17 hA17 _ => ?_)
  refine sq (opk_val hA17 rfl (r_move (hA17.get rfl)) fun a18 hA18 _ => ?_)
  refine sq (opk_call hA18 rfl (r_call (args := #[.pointer (some d_1), .int .i64 parent_3]) Try.func45 (by decide) rfl (map_arr (ml_cons (hA18.get rfl) (ml_cons (hA18.get rfl) ml_nil))) rfl) ht12 fun a20 v26 w21 hA20 _ hn23 hz24 hK25 => ?_)
  obtain ⟨r_19, rfl, ht22⟩ := hK25
  refine sq (opk_val hA20 rfl (r_assign (hA20.get rfl)) fun a27 hA27 _ => ?_)
  refine sq (opk_val hA27 rfl (r_assign (hA27.get rfl)) fun a28 hA28 _ => ?_)
  refine sq_end ?_
  have hA29 := hA28.keep [(0, .pointer (some d_1)), (1, .int .i64 id_2), (2, .int .i64 parent_3), (3, .int .i64 at_4), (9, .pointer r_9), (10, .pointer r_19)] ⟨rfl, rfl, rfl, rfl, rfl, rfl, trivial⟩
  refine then_normal ?_
  refine wp_seq ?_
  refine wp_block ?_
  refine wp_seq ?_
  refine wp_region_lit ?_
  refine sq (opk_val hA29 rfl (r_move (hA29.get rfl)) fun a30 hA30 _ => ?_)
  refine sq (opk_val hA30 rfl (r_pnil (o := r_9) (hA30.get rfl) rfl Try.underlying73) fun a31 hA31 _ => ?_)
  refine sq (opk_val hA31 rfl (r_move (hA31.get rfl)) fun a32 hA32 _ => ?_)
  refine sq (opk_gval hA32 rfl rfl (g := true) (e := (Option.isNone r_9)) rfl (fun hg => r_move (hA32.get rfl)) fun a33 hA33 _ => ?_)
  refine sq (opk_gval hA33 rfl rfl (g := true) (e := (Option.isNone r_9)) rfl (fun hg => r_pnil (o := r_19) (cv_get (hA33.get rfl) hg) rfl Try.underlying73) fun a34 hA34 _ => ?_)
  refine sq (opk_val hA34 rfl (r_pick_or (g := (true && ((Option.isNone r_9) == false))) (hA34.get rfl) (hA34.get rfl) (fun he => g_mkf rfl he)) fun a35 hA35 _ => ?_)
  refine sq (opk_val hA35 rfl (r_assign (hA35.get rfl)) fun a36 hA36 _ => ?_)
  refine sq_end ?_
  have hA37 := hA36.keep [(0, .pointer (some d_1)), (1, .int .i64 id_2), (2, .int .i64 parent_3), (3, .int .i64 at_4), (9, .pointer r_9), (10, .pointer r_19), (18, .bool ((Option.isNone r_9) || (Option.isNone r_19)))] ⟨rfl, rfl, rfl, rfl, rfl, rfl, rfl, trivial⟩
  refine then_normal ?_
  refine wp_cond_split (hA37.get rfl) (fun hc => ?_) (fun hc => ?_)
  · have ht38 := ht22.1 ((b_or_t hc).imp (fun h => h) (fun h => h))
    clear hc
    refine wp_seq ?_
    refine wp_region_lit ?_
    refine sq (opk_val hA37 rfl (r_assign rfl) fun a40 hA40 _ => ?_)
    refine sq_end ?_
    have hA41 := hA40.keep [(8, .int .i64 3)] ⟨rfl, trivial⟩
    refine then_normal ?_
    refine wp_ret ?_
    refine block_ret ?_
    refine then_ret ?_
    exact res_all (vs := [.int .i64 3]) rfl hA41 ⟨res_of_tmp hA41 rfl, trivial⟩ ht38
  · have ht39 := ht22.2 ⟨(b_or_f hc).1, (b_or_f hc).2⟩
    clear hc
    refine wp_seq ?_
    refine wp_region_lit ?_
    refine sq (opk_val hA37 rfl (r_move (hA37.get rfl)) fun a42 hA42 _ => ?_)
    obtain ⟨p_44, hp45, ht46⟩ := ht39
    refine sq (opk_val hA42 rfl (r_nilCheckP (((hA42.get rfl)).trans (congrArg Value.pointer hp45))) fun a43 hA43 _ => ?_)
    refine sq (opk_val hA43 rfl (r_fieldAddr (hA43.get rfl) Try.underlying76 rfl ti_29 (by decide)) fun a47 hA47 _ => ?_)
    refine sq (opk_val hA47 rfl (r_fieldAddr (hA47.get rfl) Try.underlying29 rfl ti_3 (by decide)) fun a48 hA48 _ => ?_)
    obtain ⟨x_50, hx51, ht52⟩ := ht46
    refine sq (opk_val hA48 rfl (r_load1 Try.underlying3 rfl (hA48.get rfl) hx51) fun a49 hA49 _ => ?_)
    refine sq (opk_val hA49 rfl (r_eql (hA49.get rfl) rfl) fun a53 hA53 _ => ?_)
    refine sq (opk_val hA53 rfl (r_move (hA53.get rfl)) fun a54 hA54 _ => ?_)
    refine sq (opk_gval hA54 rfl rfl (g := true) (e := (decide (x_50 = 1))) rfl (fun hg => r_move (hA54.get rfl)) fun a55 hA55 _ => ?_)
    refine sq (opk_gval hA55 rfl rfl (g := true) (e := (decide (x_50 = 1))) rfl (fun hg => r_move (hA55.get rfl)) fun a56 hA56 _ => ?_)
    obtain ⟨p_58, hp59, ht60⟩ := ht52
    refine sq (opk_gval hA56 rfl rfl (g := true) (e := (decide (x_50 = 1))) rfl (fun hg => r_nilCheckP (((cv_get (hA56.get rfl) hg)).trans (congrArg Value.pointer (hp59 (of_decide_eq_false (g_f hg)))))) fun a57 hA57 _ => ?_)
    refine sq (opk_gval hA57 rfl rfl (g := true) (e := (decide (x_50 = 1))) rfl (fun hg => r_fieldAddr (cv_get (hA57.get rfl) hg) Try.underlying76 rfl ti_29 (by decide)) fun a61 hA61 _ => ?_)
    refine sq (opk_gval hA61 rfl rfl (g := true) (e := (decide (x_50 = 1))) rfl (fun hg => r_fieldAddr (cv_get (hA61.get rfl) hg) Try.underlying29 rfl ti_3 (by decide)) fun a62 hA62 _ => ?_)
    obtain ⟨x_64, hx65, ht66⟩ := ht60
    refine sq (opk_gval hA62 rfl rfl (g := true) (e := (decide (x_50 = 1))) rfl (fun hg => r_load1 Try.underlying3 rfl (cv_get (hA62.get rfl) hg) (hx65 (of_decide_eq_false (g_f hg)))) fun a63 hA63 _ => ?_)
    obtain ⟨r_67, hc71, ht70⟩ := ht66
    refine sq (opk_gcall hA63 rfl rfl (g := true) (e := (decide (x_50 = 1))) rfl (fun hg => r_call (args := #[.pointer r_19, .int .i64 x_64]) Try.func46 (by decide) rfl (map_arr (ml_cons (cv_get (hA63.get rfl) hg) (ml_cons (cv_get (hA63.get rfl) hg) ml_nil))) rfl) (fun hg => hc71 (of_decide_eq_false (g_f hg))) fun a68 w69 hA68 _ hE72 => ?_)
    have hC73 : Chg [] w21 w69 := hE72
    have ht74 := ht70 w69 hE72
    refine sq (opk_gval hA68 rfl rfl (g := true) (e := (decide (x_50 = 1))) rfl (fun hg => r_not (cv_get (hA68.get rfl) hg)) fun a75 hA75 _ => ?_)
    refine sq (opk_val hA75 rfl (r_pick_or (g := (true && ((decide (x_50 = 1)) == false))) (hA75.get rfl) (hA75.get rfl) (fun he => g_mkf rfl he)) fun a76 hA76 _ => ?_)
    refine sq (opk_val hA76 rfl (r_assign (hA76.get rfl)) fun a77 hA77 _ => ?_)
    refine sq_end ?_
    have hA78 := hA77.keep [(0, .pointer (some d_1)), (1, .int .i64 id_2), (2, .int .i64 parent_3), (3, .int .i64 at_4), (9, .pointer r_9), (10, .pointer r_19), (25, .bool ((decide (x_50 = 1)) || (!r_67)))] ⟨rfl, rfl, rfl, rfl, rfl, rfl, rfl, trivial⟩
    refine then_normal ?_
    refine wp_cond_split (hA78.get rfl) (fun hc => ?_) (fun hc => ?_)
    · have ht79 := ht74.1 ((b_or_t hc).imp (fun h => (of_decide_eq_true h)) (fun h => (b_not_t h)))
      clear hc
      refine wp_seq ?_
      refine wp_region_lit ?_
      refine sq (opk_val hA78 rfl (r_assign rfl) fun a81 hA81 _ => ?_)
      refine sq_end ?_
      have hA82 := hA81.keep [(8, .int .i64 4)] ⟨rfl, trivial⟩
      refine then_normal ?_
      refine wp_ret ?_
      refine block_ret ?_
      refine then_ret ?_
      exact res_all (vs := [.int .i64 4]) rfl hA82 ⟨res_of_tmp hA82 rfl, trivial⟩ ht79
    · have ht80 := ht74.2 ⟨(of_decide_eq_false (b_or_f hc).1), (b_not_f (b_or_f hc).2)⟩
      clear hc
      refine wp_seq ?_
      refine wp_region_lit ?_
      refine sq (opk_val hA78 rfl (r_move (hA78.get rfl)) fun a83 hA83 _ => ?_)
      refine sq (opk_val hA83 rfl (r_move (hA83.get rfl)) fun a84 hA84 _ => ?_)
      refine sq (opk_val hA84 rfl (r_move (hA84.get rfl)) fun a85 hA85 _ => ?_)
      refine sq (opk_call hA85 rfl (r_call (args := #[.pointer (some d_1), .int .i64 id_2, .int .i64 parent_3]) Try.func59 (by decide) rfl (map_arr (ml_cons (hA85.get rfl) (ml_cons (hA85.get rfl) (ml_cons (hA85.get rfl) ml_nil)))) rfl) ht80 fun a87 v93 w88 hA87 _ hn90 hz91 hK92 => ?_)
      obtain ⟨r_86, rfl, ht89⟩ := hK92
      refine sq (opk_val hA87 rfl (r_assign (hA87.get rfl)) fun a94 hA94 _ => ?_)
      refine sq_end ?_
      have hA95 := hA94.keep [(0, .pointer (some d_1)), (1, .int .i64 id_2), (2, .int .i64 parent_3), (3, .int .i64 at_4), (9, .pointer r_9), (10, .pointer r_19), (42, .bool r_86)] ⟨rfl, rfl, rfl, rfl, rfl, rfl, rfl, trivial⟩
      refine then_normal ?_
      refine wp_cond_split (hA95.get rfl) (fun hc => ?_) (fun hc => ?_)
      · have ht96 := ht89.1 hc
        clear hc
        refine wp_seq ?_
        refine wp_region_lit ?_
        refine sq (opk_val hA95 rfl (r_assign rfl) fun a98 hA98 _ => ?_)
        refine sq_end ?_
        have hA99 := hA98.keep [(8, .int .i64 6)] ⟨rfl, trivial⟩
        refine then_normal ?_
        refine wp_ret ?_
        refine block_ret ?_
        refine then_ret ?_
        exact res_all (vs := [.int .i64 6]) rfl hA99 ⟨res_of_tmp hA99 rfl, trivial⟩ ht96
      · have ht97 := ht89.2 hc
        clear hc
        refine wp_skip ?_
        refine block_normal ?_
        refine then_normal ?_
        refine wp_seq ?_
        refine wp_region_lit ?_
        refine sq (opk_val hA95 rfl (r_move (hA95.get rfl)) fun a100 hA100 _ => ?_)
        obtain ⟨p_102, hp103, ht104⟩ := ht97
        refine sq (opk_val hA100 rfl (r_nilCheckP (((hA100.get rfl)).trans (congrArg Value.pointer hp103))) fun a101 hA101 _ => ?_)
        refine sq (opk_val hA101 rfl (r_fieldAddr (hA101.get rfl) Try.underlying76 rfl ti_36 (by decide)) fun a105 hA105 _ => ?_)
        obtain ⟨x_107, hx108, ht109⟩ := ht104
        refine sq (opk_val hA105 rfl (r_load1 Try.underlying36 rfl (hA105.get rfl) hx108) fun a106 hA106 _ => ?_)
        refine sq (opk_val hA106 rfl (r_len (hA106.get rfl) Try.underlying36) fun a110 hA110 _ => ?_)
        refine sq (opk_val hA110 rfl (r_assign (hA110.get rfl)) fun a111 hA111 _ => ?_)
        refine sq_end ?_
        have hA112 := hA111.keep [(0, .pointer (some d_1)), (1, .int .i64 id_2), (2, .int .i64 parent_3), (3, .int .i64 at_4), (9, .pointer r_9), (10, .pointer r_19), (11, .int .i64 (x_107.n : Int))] ⟨rfl, rfl, rfl, rfl, rfl, rfl, rfl, trivial⟩
        refine then_normal ?_
        refine wp_seq ?_
        refine wp_seq ?_
        refine wp_region_lit ?_
        refine sq (opk_val hA112 rfl (r_move (hA112.get rfl)) fun a113 hA113 _ => ?_)
        obtain ⟨p_115, hp116, ht117⟩ := ht109
        refine sq (opk_val hA113 rfl (r_nilCheckP (((hA113.get rfl)).trans (congrArg Value.pointer hp116))) fun a114 hA114 _ => ?_)
        refine sq (opk_val hA114 rfl (r_fieldAddr (hA114.get rfl) Try.underlying76 rfl ti_3 (by decide)) fun a118 hA118 _ => ?_)
        obtain ⟨x_120, hx121, ht122⟩ := ht117
        refine sq (opk_val hA118 rfl (r_load1 Try.underlying3 rfl (hA118.get rfl) hx121) fun a119 hA119 _ => ?_)
        refine sq (opk_val hA119 rfl (r_move (hA119.get rfl)) fun a123 hA123 _ => ?_)
        refine sq (opk_val hA123 rfl (r_eql (hA123.get rfl) (hA123.get rfl)) fun a124 hA124 _ => ?_)
        refine sq_end ?_
        have hA125 := hA124.keep [(0, .pointer (some d_1)), (1, .int .i64 id_2), (2, .int .i64 parent_3), (3, .int .i64 at_4), (9, .pointer r_9), (10, .pointer r_19), (11, .int .i64 (x_107.n : Int)), (57, .bool (decide (x_120 = parent_3)))] ⟨rfl, rfl, rfl, rfl, rfl, rfl, rfl, rfl, trivial⟩
        refine then_normal ?_
        obtain ⟨J_136, ht137, hr138⟩ := ht122
        refine wp_meet (fun a w => ∃ rest_134 : Int, Ag 95 a [(0, .pointer (some d_1)), (1, .int .i64 id_2), (2, .int .i64 parent_3), (3, .int .i64 at_4), (9, .pointer r_9), (10, .pointer r_19), (11, .int .i64 rest_134)] ∧ J_136 rest_134 w) ?_ ?_
        · refine wp_cond_split (hA125.get rfl) (fun hc => ?_) (fun hc => ?_)
          · have ht139 := ht137.1 (of_decide_eq_true hc)
            clear hc
            refine wp_region_lit ?_
            refine sq (opk_val hA125 rfl (r_move (hA125.get rfl)) fun a141 hA141 _ => ?_)
            obtain ⟨hS143, ht144⟩ := ht139
            refine sq (opk_val hA141 rfl (r_subI (hA141.get rfl) rfl hS143) fun a142 hA142 _ => ?_)
            refine sq (opk_val hA142 rfl (r_assign (hA142.get rfl)) fun a145 hA145 _ => ?_)
            refine sq_end ?_
            have hA146 := hA145.keep [(0, .pointer (some d_1)), (1, .int .i64 id_2), (2, .int .i64 parent_3), (3, .int .i64 at_4), (9, .pointer r_9), (10, .pointer r_19), (11, .int .i64 ((x_107.n : Int) - 1))] ⟨rfl, rfl, rfl, rfl, rfl, rfl, rfl, trivial⟩
            have hA147 := hA146.keep [(0, .pointer (some d_1)), (1, .int .i64 id_2), (2, .int .i64 parent_3), (3, .int .i64 at_4), (9, .pointer r_9), (10, .pointer r_19), (11, .int .i64 ((x_107.n : Int) - 1))] ⟨rfl, rfl, rfl, rfl, rfl, rfl, rfl, trivial⟩
            exact then_normal ⟨(x_107.n : Int) - 1, hA147, ht144⟩
          · have ht140 := ht137.2 (of_decide_eq_false hc)
            clear hc
            refine wp_skip ?_
            have hA148 := hA125.keep [(0, .pointer (some d_1)), (1, .int .i64 id_2), (2, .int .i64 parent_3), (3, .int .i64 at_4), (9, .pointer r_9), (10, .pointer r_19), (11, .int .i64 (x_107.n : Int))] ⟨rfl, rfl, rfl, rfl, rfl, rfl, rfl, trivial⟩
            exact then_normal ⟨(x_107.n : Int), hA148, ht140⟩
        · intro a149 w135 hm
          obtain ⟨rest_134, hA149, hJ279⟩ := hm
          have ht150 := hr138 rest_134 w135 hJ279
          refine then_normal ?_
          refine wp_seq ?_
          refine wp_block ?_
          refine wp_seq ?_
          refine wp_region_lit ?_
          refine sq (opk_val hA149 rfl (r_move (hA149.get rfl)) fun a151 hA151 _ => ?_)
          refine sq (opk_val hA151 rfl (r_lss (hA151.get rfl) rfl) fun a152 hA152 _ => ?_)
          refine sq (opk_val hA152 rfl (r_move (hA152.get rfl)) fun a153 hA153 _ => ?_)
          refine sq (opk_gval hA153 rfl rfl (g := true) (e := (decide (at_4 < 0))) rfl (fun hg => r_move (hA153.get rfl)) fun a154 hA154 _ => ?_)
          refine sq (opk_gval hA154 rfl rfl (g := true) (e := (decide (at_4 < 0))) rfl (fun hg => r_move (hA154.get rfl)) fun a155 hA155 _ => ?_)
          refine sq (opk_gval hA155 rfl rfl (g := true) (e := (decide (at_4 < 0))) rfl (fun hg => r_gtr (cv_get (hA155.get rfl) hg) (cv_get (hA155.get rfl) hg)) fun a156 hA156 _ => ?_)
          refine sq (opk_val hA156 rfl (r_pick_or (g := (true && ((decide (at_4 < 0)) == false))) (hA156.get rfl) (hA156.get rfl) (fun he => g_mkf rfl he)) fun a157 hA157 _ => ?_)
          refine sq (opk_val hA157 rfl (r_assign (hA157.get rfl)) fun a158 hA158 _ => ?_)
          refine sq_end ?_
          have hA159 := hA158.keep [(0, .pointer (some d_1)), (1, .int .i64 id_2), (2, .int .i64 parent_3), (3, .int .i64 at_4), (9, .pointer r_9), (10, .pointer r_19), (60, .bool ((decide (at_4 < 0)) || (decide (rest_134 < at_4))))] ⟨rfl, rfl, rfl, rfl, rfl, rfl, rfl, trivial⟩
          refine then_normal ?_
          refine wp_cond_split (hA159.get rfl) (fun hc => ?_) (fun hc => ?_)
          · have ht160 := ht150.1 ((b_or_t hc).imp (fun h => (of_decide_eq_true h)) (fun h => (of_decide_eq_true h)))
            clear hc
            refine wp_seq ?_
            refine wp_region_lit ?_
            refine sq (opk_val hA159 rfl (r_assign rfl) fun a162 hA162 _ => ?_)
            refine sq_end ?_
            have hA163 := hA162.keep [(8, .int .i64 5)] ⟨rfl, trivial⟩
            refine then_normal ?_
            refine wp_ret ?_
            refine block_ret ?_
            refine then_ret ?_
            exact res_all (vs := [.int .i64 5]) rfl hA163 ⟨res_of_tmp hA163 rfl, trivial⟩ ht160
          · have ht161 := ht150.2 ⟨(of_decide_eq_false (b_or_f hc).1), (of_decide_eq_false (b_or_f hc).2)⟩
            clear hc
            refine wp_seq ?_
            refine wp_region_lit ?_
            refine sq (opk_val hA159 rfl (r_move (hA159.get rfl)) fun a164 hA164 _ => ?_)
            refine sq (opk_val hA164 rfl (r_move (hA164.get rfl)) fun a165 hA165 _ => ?_)
            refine sq (opk_call hA165 rfl (r_call (args := #[.pointer (some d_1), .int .i64 parent_3]) Try.func47 (by decide) rfl (map_arr (ml_cons (hA165.get rfl) (ml_cons (hA165.get rfl) ml_nil))) rfl) ht161 fun a167 v173 w168 hA167 _ hn170 hz171 hK172 => ?_)
            obtain ⟨r_166, rfl, ht169⟩ := hK172
            refine sq (opk_val hA167 rfl (r_move (hA167.get rfl)) fun a174 hA174 _ => ?_)
            refine sq (opk_val hA174 rfl (r_move (hA174.get rfl)) fun a175 hA175 _ => ?_)
            refine sq (opk_call hA175 rfl (r_call (args := #[.pointer (some d_1), .int .i64 id_2]) Try.func60 (by decide) rfl (map_arr (ml_cons (hA175.get rfl) (ml_cons (hA175.get rfl) ml_nil))) rfl) ht169 fun a177 v183 w178 hA177 _ hn180 hz181 hK182 => ?_)
            obtain ⟨r_176, rfl, ht179⟩ := hK182
            obtain ⟨hS185, ht186⟩ := ht179
            refine sq (opk_val hA177 rfl (r_addI (hA177.get rfl) (hA177.get rfl) hS185) fun a184 hA184 _ => ?_)
            refine sq (opk_val hA184 rfl (r_gtr (hA184.get rfl) rfl) fun a187 hA187 _ => ?_)
            refine sq (opk_val hA187 rfl (r_assign (hA187.get rfl)) fun a188 hA188 _ => ?_)
            refine sq_end ?_
            have hA189 := hA188.keep [(0, .pointer (some d_1)), (1, .int .i64 id_2), (2, .int .i64 parent_3), (3, .int .i64 at_4), (9, .pointer r_9), (10, .pointer r_19), (68, .bool (decide (60 < (r_166 + r_176))))] ⟨rfl, rfl, rfl, rfl, rfl, rfl, rfl, trivial⟩
            refine then_normal ?_
            refine wp_cond_split (hA189.get rfl) (fun hc => ?_) (fun hc => ?_)
            · have ht190 := ht186.1 (of_decide_eq_true hc)
              clear hc
              refine wp_seq ?_
              refine wp_region_lit ?_
              refine sq (opk_val hA189 rfl (r_assign rfl) fun a192 hA192 _ => ?_)
              refine sq_end ?_
              have hA193 := hA192.keep [(8, .int .i64 2)] ⟨rfl, trivial⟩
              refine then_normal ?_
              refine wp_ret ?_
              refine block_ret ?_
              refine then_ret ?_
              exact res_all (vs := [.int .i64 2]) rfl hA193 ⟨res_of_tmp hA193 rfl, trivial⟩ ht190
            · have ht191 := ht186.2 (of_decide_eq_false hc)
              clear hc
              refine wp_skip ?_
              refine block_normal ?_
              refine then_normal ?_
              refine wp_seq ?_
              refine wp_region_lit ?_
              refine sq (opk_val hA189 rfl (r_move (hA189.get rfl)) fun a194 hA194 _ => ?_)
              refine sq (opk_val hA194 rfl (r_move (hA194.get rfl)) fun a195 hA195 _ => ?_)
              refine sq (opk_call hA195 rfl (r_call (args := #[.pointer (some d_1), .int .i64 id_2]) Try.func57 (by decide) rfl (map_arr (ml_cons (hA195.get rfl) (ml_cons (hA195.get rfl) ml_nil))) rfl) ht191 fun a196 v202 w197 hA196 _ hn199 hz200 hK201 => ?_)
              obtain ⟨rfl, ht198⟩ := hK201
              refine sq_end ?_
              have hA203 := hA196.keep [(1, .int .i64 id_2), (2, .int .i64 parent_3), (3, .int .i64 at_4), (9, .pointer r_9), (10, .pointer r_19)] ⟨rfl, rfl, rfl, rfl, rfl, trivial⟩
              refine then_normal ?_
              refine wp_seq ?_
              refine wp_region_lit ?_
              refine sq (opk_val hA203 rfl (r_move (hA203.get rfl)) fun a204 hA204 _ => ?_)
              refine sq (opk_val hA204 rfl (r_move (hA204.get rfl)) fun a205 hA205 _ => ?_)
              obtain ⟨p_207, hp208, ht209⟩ := ht198
              refine sq (opk_val hA205 rfl (r_nilCheckP (((hA205.get rfl)).trans (congrArg Value.pointer hp208))) fun a206 hA206 _ => ?_)
              refine sq (opk_val hA206 rfl (r_fieldAddr (hA206.get rfl) Try.underlying76 rfl ti_3 (by decide)) fun a210 hA210 _ => ?_)
              obtain ⟨B_215, o_216, T_217, cs_218, he219, hb220, hl221, hx222, ht223⟩ := ht209
              refine sq (opk_store hA210 hb220 (r_store (vs := [.int .i64 parent_3]) (((hA210.get rfl)).trans (congrArg (fun a => Value.pointer (some a)) he219)) (hA210.get rfl) rfl ti_3 hb220 (Nat.ble_eq_true_of_le hl221) (ones_all [.int .i64 parent_3] rfl)) fun a212 w211 hS213 hB214 hA212 => ?_)
              have ht224 := ht223 w211 hS213 hB214
              refine sq_end ?_
              have hA225 := hA212.keep [(1, .int .i64 id_2), (3, .int .i64 at_4), (10, .pointer r_19)] ⟨rfl, rfl, rfl, trivial⟩
              refine then_normal ?_
              refine wp_seq ?_
              refine wp_region_lit ?_
              refine sq (opk_val hA225 rfl (r_move (hA225.get rfl)) fun a226 hA226 _ => ?_)
              refine sq (opk_val hA226 rfl (r_move (hA226.get rfl)) fun a227 hA227 _ => ?_)
              obtain ⟨p_229, hp230, ht231⟩ := ht224
              refine sq (opk_val hA227 rfl (r_nilCheckP (((hA227.get rfl)).trans (congrArg Value.pointer hp230))) fun a228 hA228 _ => ?_)
              refine sq (opk_val hA228 rfl (r_fieldAddr (hA228.get rfl) Try.underlying76 rfl ti_36 (by decide)) fun a232 hA232 _ => ?_)
              obtain ⟨x_234, hx235, ht236⟩ := ht231
              refine sq (opk_val hA232 rfl (r_load1 Try.underlying36 rfl (hA232.get rfl) hx235) fun a233 hA233 _ => ?_)
              refine sq (opk_val hA233 rfl (r_move (hA233.get rfl)) fun a237 hA237 _ => ?_)
              refine sq (opk_val hA237 rfl (r_move (hA237.get rfl)) fun a238 hA238 _ => ?_)
              refine sq (opk_new (fun B => .slice (some ⟨B, 0, none⟩) 1 1) hA238 rfl (r_buildSlice (vs := #[(0, .int .i64 id_2)]) (cs := [.int .i64 id_2]) (map_arr2 (ml2_cons (hA238.get rfl) (ml2_nil))) Try.underlying36 ti_3 rfl rfl (by kernel_rfl)) fun a241 w240 B_239 hE242 hN243 hB244 hA241 _ => ?_)
              have hN245 : New w211 B_239 w240 := hN243
              have hC246 : Chg [] w211 w240 := hE242
              have ht247 := ht236 w240 B_239 hN245  hC246
              have ht248 := ht247 hB244
              refine sq (opk_call hA241 rfl (r_call (args := #[Sl.v x_234, .int .i64 at_4, Sl.v (Sl.mk (some ⟨B_239, 0, none⟩) 1 1)]) Try.func49 (by decide) rfl (map_arr (ml_cons (hA241.get rfl) (ml_cons (hA241.get rfl) (ml_cons (hA241.get rfl) ml_nil)))) rfl) ht248 fun a250 v256 w251 hA250 _ hn253 hz254 hK255 => ?_)
              obtain ⟨r_249, rfl, ht252⟩ := hK255
              obtain ⟨p_258, hp259, ht260⟩ := ht252
              refine sq (opk_val hA250 rfl (r_nilCheckP (((hA250.get rfl)).trans (congrArg Value.pointer hp259))) fun a257 hA257 _ => ?_)
              refine sq (opk_val hA257 rfl (r_fieldAddr (hA257.get rfl) Try.underlying76 rfl ti_36 (by decide)) fun a261 hA261 _ => ?_)
              obtain ⟨B_266, o_267, T_268, cs_269, he270, hb271, hl272, hx273, ht274⟩ := ht260
              refine sq (opk_store hA261 hb271 (r_store (vs := [Sl.v r_249]) (((hA261.get rfl)).trans (congrArg (fun a => Value.pointer (some a)) he270)) (hA261.get rfl) rfl ti_36 hb271 (Nat.ble_eq_true_of_le hl272) (ones_all [Sl.v r_249] rfl)) fun a263 w262 hS264 hB265 hA263 => ?_)
              have ht275 := ht274 w262 hS264 hB265
              refine sq_end ?_
              have hA276 := hA263.keep [] trivial
              refine then_normal ?_
              refine wp_seq ?_
              refine wp_region_lit ?_
              refine sq (opk_val hA276 rfl (r_assign rfl) fun a277 hA277 _ => ?_)
              refine sq_end ?_
              have hA278 := hA277.keep [(8, .int .i64 0)] ⟨rfl, trivial⟩
              refine then_normal ?_
              refine wp_ret ?_
              exact res_all (vs := [.int .i64 0]) rfl hA278 ⟨res_of_tmp hA278 rfl, trivial⟩ ht275

end Go.Proofs.Ytghmgfkdnolcdaa
