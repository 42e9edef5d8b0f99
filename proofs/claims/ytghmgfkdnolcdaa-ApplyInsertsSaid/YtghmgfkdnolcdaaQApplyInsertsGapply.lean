/-
  PRINTED BY PROGRAM: for each function its condition (vc), and that this suffices (ok).
-/
import Derived.Test.YtghmgfkdnolcdaaQApplyInsertsGT
namespace Go.Proofs.Ytghmgfkdnolcdaa
open Go.RowKit
set_option linter.unusedVariables false

/-- The condition of topiary/apply.Apply. -/
def apply_Apply.vc (t_1_Kind : Int) (t_1_Name : Str) (t_1_Text : Str) (t_1_Attrs : Sl) (t_1_Kids : Sl) (l_2 : Sl) (R : Value → World → Prop) (w : World) : Prop :=
∀ (w12 : World) (B_3 : Nat) (B_11 : Nat), New w B_3 w12 → New w B_11 w12 → B_3 ≠ B_11 → Chg [] w w12 →
CallK Try.prog 66 #[.agg #[.int .i64 t_1_Kind, .string (Bs t_1_Name), .string (Bs t_1_Text), Sl.v t_1_Attrs, Sl.v t_1_Kids], Sl.v l_2, .func (.func 67) #[] #[]] w12 [B_3, B_11] (fun v w32 => ∃ (r_0_28 : Option Addr) (r_1_29 : Int) (r_2_30 : Int), v = .tuple #[.pointer r_0_28, .int .i64 r_1_29, .int .i64 r_2_30] ∧
((r_2_30 ≠ 0) →
∀ (w56 : World), Chg [B_11] w32 w56 →
R (.tuple #[.agg #[.int .i64 0, .string (Bs ([] : Str)), .string (Bs ([] : Str)), Sl.v Sl.nil, Sl.v Sl.nil], .int .i64 r_1_29, .int .i64 r_2_30]) w56) ∧
((¬ (r_2_30 ≠ 0)) →
CallK Try.prog 18 #[.pointer r_0_28] w32 [B_11] (fun v w69 => ∃ (r_67_Kind : Int) (r_67_Name : Str) (r_67_Text : Str) (r_67_Attrs : Sl) (r_67_Kids : Sl), v = .agg #[.int .i64 r_67_Kind, .string (Bs r_67_Name), .string (Bs r_67_Text), Sl.v r_67_Attrs, Sl.v r_67_Kids] ∧
∀ (w77 : World), Chg [B_11] w69 w77 →
R (.tuple #[.agg #[.int .i64 r_67_Kind, .string (Bs r_67_Name), .string (Bs r_67_Text), Sl.v r_67_Attrs, Sl.v r_67_Kids], .int .i64 r_1_29, .int .i64 0]) w77)))
set_option maxHeartbeats 1000000 in
set_option maxRecDepth 10000 in
theorem apply_Apply.ok (t_1_Kind : Int) (t_1_Name : Str) (t_1_Text : Str) (t_1_Attrs : Sl) (t_1_Kids : Sl) (l_2 : Sl) {R : Value → World → Prop} {w : World} (ht0 : apply_Apply.vc t_1_Kind t_1_Name t_1_Text t_1_Attrs t_1_Kids l_2 R w) : Calls Try.prog 38 #[.agg #[.int .i64 t_1_Kind, .string (Bs t_1_Name), .string (Bs t_1_Text), Sl.v t_1_Attrs, Sl.v t_1_Kids], Sl.v l_2] w (Ret R) := by
  refine enter [.agg #[.int .i64 t_1_Kind, .string (Bs t_1_Name), .string (Bs t_1_Text), Sl.v t_1_Attrs, Sl.v t_1_Kids], Sl.v l_2] Try.func38 rfl Try.ntmps38 rfl ?_
  intro a0 hA0
  unfold apply_Apply.vc at ht0
  refine wp_seq ?_
  refine wp_region_lit ?_
  refine sq (opk_new (fun B => .pointer (some ⟨B, 0, none⟩)) hA0 rfl (r_box (cs := [.int .i64 t_1_Kind, .string (Bs t_1_Name), .string (Bs t_1_Text), Sl.v t_1_Attrs, Sl.v t_1_Kids]) (hA0.get rfl) rfl) fun a5 w4 B_3 hE6 hN7 hB8 hA5 _ => ?_)
  have hN9 : New w B_3 w4 := hN7
  have hC10 : Chg [] w w4 := hE6
  refine sq (opk_new (fun B => .pointer (some ⟨B, 0, none⟩)) hA5 rfl (r_alloc (cs := [.int .i64 0, .string (Bs ([] : Str)), .string (Bs ([] : Str)), Sl.v Sl.nil, Sl.v Sl.nil]) ti_29 rfl) fun a13 w12 B_11 hE14 hN15 hB16 hA13 _ => ?_)
  have hne17 : B_3 ≠ B_11 := Nat.ne_of_lt (Nat.lt_of_lt_of_le hB8.lt hN15.ge)
  have hN18 := New.of hC10 hN15
  have hB19 := hB8.ext hE14
  have hC20 := hC10.more hE14
  have hN21 := hN9.up hE14.size
  refine sq (opk_val hA13 rfl (r_assign rfl) fun a22 hA22 _ => ?_)
  refine sq (opk_val hA22 rfl (r_assign rfl) fun a23 hA23 _ => ?_)
  refine sq_end ?_
  have hA24 := hA23.keep [(1, Sl.v l_2), (2, .pointer (some (⟨B_3, 0, none⟩ : Addr))), (4, .pointer (some (⟨B_11, 0, none⟩ : Addr)))] ⟨rfl, rfl, rfl, trivial⟩
  refine then_normal ?_
  refine wp_seq ?_
  refine wp_region_lit ?_
  refine sq (opk_val hA24 rfl (r_loadN (cs := [.int .i64 t_1_Kind, .string (Bs t_1_Name), .string (Bs t_1_Text), Sl.v t_1_Attrs, Sl.v t_1_Kids]) Try.underlying29 rfl ti_29 (hA24.get rfl) (hB19.part 0 _ rfl)) fun a25 hA25 _ => ?_)
  refine sq (opk_val hA25 rfl (r_move (hA25.get rfl)) fun a26 hA26 _ => ?_)
  have ht27 := ht0 w12 B_3 B_11 hN21 hN18 hne17 hC20
  refine sq (opk_call hA26 rfl (r_call (args := #[.agg #[.int .i64 t_1_Kind, .string (Bs t_1_Name), .string (Bs t_1_Text), Sl.v t_1_Attrs, Sl.v t_1_Kids], Sl.v l_2, .func (.func 67) #[] #[]]) Try.func66 (by decide) rfl (map_arr (ml_cons (hA26.get rfl) (ml_cons (hA26.get rfl) (ml_cons rfl ml_nil)))) rfl) ht27 fun a31 v37 w32 hA31 _ hn34 hz35 hK36 => ?_)
  obtain ⟨r_0_28, r_1_29, r_2_30, rfl, ht33⟩ := hK36
  have hB38 := hB19.kept hn34 (.head _)
  have hB39 := hB16.kept hn34 (.tail _ (.head _))
  refine sq (opk_val hA31 rfl (r_move (hA31.get rfl)) fun a40 hA40 _ => ?_)
  refine sq (opk_val hA40 rfl (r_extract (hA40.get rfl) rfl) fun a41 hA41 _ => ?_)
  refine sq (opk_val hA41 rfl (r_extract (hA41.get rfl) rfl) fun a42 hA42 _ => ?_)
  refine sq (opk_val hA42 rfl (r_extract (hA42.get rfl) rfl) fun a43 hA43 _ => ?_)
  refine sq (opk_val hA43 rfl (r_assign (hA43.get rfl)) fun a44 hA44 _ => ?_)
  refine sq (opk_val hA44 rfl (r_assign (hA44.get rfl)) fun a45 hA45 _ => ?_)
  refine sq (opk_val hA45 rfl (r_assign (hA45.get rfl)) fun a46 hA46 _ => ?_)
  refine sq_end ?_
  have hA47 := hA46.keep [(4, .pointer (some (⟨B_11, 0, none⟩ : Addr))), (7, .pointer r_0_28), (8, .int .i64 r_1_29), (9, .int .i64 r_2_30)] ⟨rfl, rfl, rfl, rfl, trivial⟩
  refine then_normal ?_
  refine wp_seq ?_
  refine wp_seq ?_
  refine wp_region_lit ?_
  refine sq (opk_val hA47 rfl (r_move (hA47.get rfl)) fun a48 hA48 _ => ?_)
  refine sq (opk_val hA48 rfl (r_neq (hA48.get rfl) rfl) fun a49 hA49 _ => ?_)
  refine sq_end ?_
  have hA50 := hA49.keep [(4, .pointer (some (⟨B_11, 0, none⟩ : Addr))), (7, .pointer r_0_28), (8, .int .i64 r_1_29), (9, .int .i64 r_2_30), (18, .bool (decide (r_2_30 ≠ 0)))] ⟨rfl, rfl, rfl, rfl, rfl, trivial⟩
  refine then_normal ?_
  refine wp_cond_split (hA50.get rfl) (fun hc => ?_) (fun hc => ?_)
  · have ht51 := ht33.1 (of_decide_eq_true hc)
    clear hc
    refine wp_seq ?_
    refine wp_region_lit ?_
    refine sq (opk_val hA50 rfl (r_build (vs := #[]) (cells := #[.int .i64 0, .string (Bs ([] : Str)), .string (Bs ([] : Str)), Sl.v Sl.nil, Sl.v Sl.nil]) (map_arr2 ml2_nil) ti_29 Try.underlying29 pl_29 (by kernel_rfl)) fun a53 hA53 _ => ?_)
    refine sq (opk_val hA53 rfl (r_move (hA53.get rfl)) fun a54 hA54 _ => ?_)
    refine sq (opk_val hA54 rfl (r_move (hA54.get rfl)) fun a55 hA55 _ => ?_)
    refine sq (opk_store hA55 hB39 (r_store (vs := [.int .i64 0, .string (Bs ([] : Str)), .string (Bs ([] : Str)), Sl.v Sl.nil, Sl.v Sl.nil]) (hA55.get rfl) (hA55.get rfl) rfl ti_29 hB39 rfl (ones_all [.int .i64 0, .string (Bs ([] : Str)), .string (Bs ([] : Str)), Sl.v Sl.nil, Sl.v Sl.nil] rfl)) fun a57 w56 hS58 hB59 hA57 => ?_)
    have hB60 : Box w56 B_11 29 [.int .i64 0, .string (Bs ([] : Str)), .string (Bs ([] : Str)), Sl.v Sl.nil, Sl.v Sl.nil] := hB59
    have hC61 : Chg [B_11] w32 w56 := hS58
    refine sq (opk_val hA57 rfl (r_assign (hA57.get rfl)) fun a62 hA62 _ => ?_)
    refine sq (opk_val hA62 rfl (r_assign (hA62.get rfl)) fun a63 hA63 _ => ?_)
    refine sq_end ?_
    have hA64 := hA63.keep [(4, .pointer (some (⟨B_11, 0, none⟩ : Addr))), (5, .int .i64 r_1_29), (6, .int .i64 r_2_30)] ⟨rfl, rfl, rfl, trivial⟩
    refine then_normal ?_
    refine wp_ret ?_
    refine then_ret ?_
    have ht65 := ht51 w56    hC61
    exact res_all (vs := [.agg #[.int .i64 0, .string (Bs ([] : Str)), .string (Bs ([] : Str)), Sl.v Sl.nil, Sl.v Sl.nil], .int .i64 r_1_29, .int .i64 r_2_30]) rfl hA64 ⟨res_of_cell hA64 rfl hB60 Try.underlying29 rfl ti_29, res_of_tmp hA64 rfl, res_of_tmp hA64 rfl, trivial⟩ ht65
  · have ht52 := ht33.2 (of_decide_eq_false hc)
    clear hc
    refine wp_skip ?_
    refine then_normal ?_
    refine wp_seq ?_
    refine wp_region_lit ?_
    refine sq (opk_val hA50 rfl (r_move (hA50.get rfl)) fun a66 hA66 _ => ?_)
    refine sq (opk_call hA66 rfl (r_call (args := #[.pointer r_0_28]) Try.func18 (by decide) rfl (map_arr (ml_cons (hA66.get rfl) ml_nil)) rfl) ht52 fun a68 v74 w69 hA68 _ hn71 hz72 hK73 => ?_)
    obtain ⟨r_67_Kind, r_67_Name, r_67_Text, r_67_Attrs, r_67_Kids, rfl, ht70⟩ := hK73
    have hB75 := hB39.kept hn71 (.head _)
    refine sq (opk_val hA68 rfl (r_move (hA68.get rfl)) fun a76 hA76 _ => ?_)
    refine sq (opk_store hA76 hB75 (r_store (vs := [.int .i64 r_67_Kind, .string (Bs r_67_Name), .string (Bs r_67_Text), Sl.v r_67_Attrs, Sl.v r_67_Kids]) (hA76.get rfl) (hA76.get rfl) rfl ti_29 hB75 rfl (ones_all [.int .i64 r_67_Kind, .string (Bs r_67_Name), .string (Bs r_67_Text), Sl.v r_67_Attrs, Sl.v r_67_Kids] rfl)) fun a78 w77 hS79 hB80 hA78 => ?_)
    have hB81 : Box w77 B_11 29 [.int .i64 r_67_Kind, .string (Bs r_67_Name), .string (Bs r_67_Text), Sl.v r_67_Attrs, Sl.v r_67_Kids] := hB80
    have hC82 : Chg [B_11] w69 w77 := hS79
    refine sq (opk_val hA78 rfl (r_assign (hA78.get rfl)) fun a83 hA83 _ => ?_)
    refine sq (opk_val hA83 rfl (r_assign rfl) fun a84 hA84 _ => ?_)
    refine sq_end ?_
    have hA85 := hA84.keep [(4, .pointer (some (⟨B_11, 0, none⟩ : Addr))), (5, .int .i64 r_1_29), (6, .int .i64 0)] ⟨rfl, rfl, rfl, trivial⟩
    refine then_normal ?_
    refine wp_ret ?_
    have ht86 := ht70 w77    hC82
    exact res_all (vs := [.agg #[.int .i64 r_67_Kind, .string (Bs r_67_Name), .string (Bs r_67_Text), Sl.v r_67_Attrs, Sl.v r_67_Kids], .int .i64 r_1_29, .int .i64 0]) rfl hA85 ⟨res_of_cell hA85 rfl hB81 Try.underlying29 rfl ti_29, res_of_tmp hA85 rfl, res_of_tmp hA85 rfl, trivial⟩ ht86

/-- The condition of topiary/apply.Right. -/
def apply_Right.vc (o_1_Kind : Int) (o_1_ID : Int) (o_1_Parent : Int) (o_1_At : Int) (o_1_What : Int) (o_1_Name : Str) (o_1_Text : Str) (R : Value → World → Prop) (w : World) : Prop :=
∀ (w3 : World) (B_2 : Nat), New w B_2 w3 → Chg [] w w3 →
CallK Try.prog 84 #[] w3 [B_2] (fun v w15 => v = .agg #[.nilFunc, .nilFunc, .func (.func 93) #[] #[], .func (.func 94) #[] #[], .func (.func 95) #[] #[], .func (.func 96) #[] #[], .func (.func 97) #[] #[], .func (.func 98) #[] #[], .func (.func 99) #[] #[], .func (.func 100) #[] #[], .func (.func 101) #[] #[], .func (.func 102) #[] #[], .func (.func 103) #[] #[], .func (.func 104) #[] #[]] ∧
(((((o_1_Kind < 1) ∨ (6 < o_1_Kind)) ∨ (o_1_ID < 0)) ∨ (1048576 < o_1_ID)) →
∀ (w32 : World) (B_22 : Nat), New w15 B_22 w32 → Chg [] w15 w32 →
R (.bool false) w32) ∧
(((((¬ (o_1_Kind < 1)) ∧ (¬ (6 < o_1_Kind))) ∧ (¬ (o_1_ID < 0))) ∧ (¬ (1048576 < o_1_ID))) →
((o_1_Kind = 1) →
∀ (w32 : World) (B_22 : Nat), New w15 B_22 w32 → Chg [] w15 w32 →
R (.bool ((decide (1 ≤ o_1_What)) && (decide (o_1_What ≤ 5)))) w32) ∧
((¬ (o_1_Kind = 1)) →
∀ (w82 : World) (B_22 : Nat), New w15 B_22 w82 → Chg [] w15 w82 →
((0 : Int) ≤ o_1_Kind ∧ o_1_Kind < 7) ∧
∃ (f_97 : FuncId) (fst_98 cap_99 : Array Value), ((([.nilFunc, .nilFunc, .func (.func 93) #[] #[], .func (.func 94) #[] #[], .func (.func 95) #[] #[], .func (.func 96) #[] #[], .func (.func 97) #[] #[], .func (.func 98) #[] #[], .func (.func 99) #[] #[], .func (.func 100) #[] #[], .func (.func 101) #[] #[], .func (.func 102) #[] #[], .func (.func 103) #[] #[], .func (.func 104) #[] #[]] : List Value).getD (o_1_Kind.toNat * 2 + 1) .nilFunc) = .func (.func f_97) fst_98 cap_99) ∧
Body Try.prog f_97 ∧
∃ V_104 : Int → Int → Int → Int → Int → Str → Str → World → Prop, (∀ r_103_Kind : Int, ∀ r_103_ID : Int, ∀ r_103_Parent : Int, ∀ r_103_At : Int, ∀ r_103_What : Int, ∀ r_103_Name : Str, ∀ r_103_Text : Str, ∀ w' w'' : World, Ext w' w'' → V_104 r_103_Kind r_103_ID r_103_Parent r_103_At r_103_What r_103_Name r_103_Text w' → V_104 r_103_Kind r_103_ID r_103_Parent r_103_At r_103_What r_103_Name r_103_Text w'') ∧
(∀ w' : World, Ext w82 w' → Calls Try.prog f_97 (fst_98 ++ #[.agg #[.int .i64 o_1_Kind, .int .i64 o_1_ID, .int .i64 o_1_Parent, .int .i64 o_1_At, .int .i64 o_1_What, .string (Bs o_1_Name), .string (Bs o_1_Text)]] ++ cap_99) w' (Ret fun v w'' => Ext w' w'' ∧ ∃ r_103_Kind : Int, ∃ r_103_ID : Int, ∃ r_103_Parent : Int, ∃ r_103_At : Int, ∃ r_103_What : Int, ∃ r_103_Name : Str, ∃ r_103_Text : Str, v = .agg #[.int .i64 r_103_Kind, .int .i64 r_103_ID, .int .i64 r_103_Parent, .int .i64 r_103_At, .int .i64 r_103_What, .string (Bs r_103_Name), .string (Bs r_103_Text)] ∧ V_104 r_103_Kind r_103_ID r_103_Parent r_103_At r_103_What r_103_Name r_103_Text w'')) ∧
∀ (w114 : World) (r_103_Kind : Int) (r_103_ID : Int) (r_103_Parent : Int) (r_103_At : Int) (r_103_What : Int) (r_103_Name : Str) (r_103_Text : Str) (B_108 : Nat), Ext w82 w114 → V_104 r_103_Kind r_103_ID r_103_Parent r_103_At r_103_What r_103_Name r_103_Text w114 → w82.heap.size ≤ B_108 → Box w114 B_108 48 [.int .i64 0, .int .i64 0, .int .i64 0, .int .i64 0, .int .i64 0, .string (Bs ([] : Str)), .string (Bs ([] : Str))] → 
∀ (w132 : World), Chg [B_108] w114 w132 →
R (.bool (((((decide (o_1_Parent = r_103_Parent)) && (decide (o_1_At = r_103_At))) && (decide (o_1_What = 0))) && (decide (o_1_Name = r_103_Name))) && (decide (o_1_Text = r_103_Text)))) w132)))
set_option maxHeartbeats 1000000 in
set_option maxRecDepth 10000 in
theorem apply_Right.ok (o_1_Kind : Int) (o_1_ID : Int) (o_1_Parent : Int) (o_1_At : Int) (o_1_What : Int) (o_1_Name : Str) (o_1_Text : Str) {R : Value → World → Prop} {w : World} (ht0 : apply_Right.vc o_1_Kind o_1_ID o_1_Parent o_1_At o_1_What o_1_Name o_1_Text R w) : Calls Try.prog 65 #[.agg #[.int .i64 o_1_Kind, .int .i64 o_1_ID, .int .i64 o_1_Parent, .int .i64 o_1_At, .int .i64 o_1_What, .string (Bs o_1_Name), .string (Bs o_1_Text)]] w (Ret R) := by
  refine enter [.agg #[.int .i64 o_1_Kind, .int .i64 o_1_ID, .int .i64 o_1_Parent, .int .i64 o_1_At, .int .i64 o_1_What, .string (Bs o_1_Name), .string (Bs o_1_Text)]] Try.func65 rfl Try.ntmps65 rfl ?_
  intro a0 hA0
  unfold apply_Right.vc at ht0
  refine wp_seq ?_
  refine wp_region_lit ?_
  refine sq (opk_new (fun B => .pointer (some ⟨B, 0, none⟩)) hA0 rfl (r_box (cs := [.int .i64 o_1_Kind, .int .i64 o_1_ID, .int .i64 o_1_Parent, .int .i64 o_1_At, .int .i64 o_1_What, .string (Bs o_1_Name), .string (Bs o_1_Text)]) (hA0.get rfl) rfl) fun a4 w3 B_2 hE5 hN6 hB7 hA4 _ => ?_)
  have hN8 : New w B_2 w3 := hN6
  have hC9 : Chg [] w w3 := hE5
  refine sq (opk_val hA4 rfl (r_assign rfl) fun a10 hA10 _ => ?_)
  refine sq_end ?_
  have hA11 := hA10.keep [(1, .pointer (some (⟨B_2, 0, none⟩ : Addr)))] ⟨rfl, trivial⟩
  refine then_normal ?_
  refine wp_seq ?_
  refine wp_region_lit ?_
  have ht12 := ht0 w3 B_2 hN8  hC9
  refine sq (opk_call hA11 rfl (r_call (args := #[]) Try.func84 (by decide) rfl (map_arr ml_nil) rfl) ht12 fun a14 v20 w15 hA14 _ hn17 hz18 hK19 => ?_)
  obtain ⟨rfl, ht16⟩ := hK19
  have hB21 := hB7.kept hn17 (.head _)
  refine sq (opk_new (fun B => .pointer (some ⟨B, 0, none⟩)) hA14 rfl (r_alloc (cs := [.nilFunc, .nilFunc, .nilFunc, .nilFunc, .nilFunc, .nilFunc, .nilFunc, .nilFunc, .nilFunc, .nilFunc, .nilFunc, .nilFunc, .nilFunc, .nilFunc]) ti_114 rfl) fun a24 w23 B_22 hE25 hN26 hB27 hA24 _ => ?_)
  have hne28 : B_2 ≠ B_22 := Nat.ne_of_lt (Nat.lt_of_lt_of_le hB21.lt hN26.ge)
  have hN29 : New w15 B_22 w23 := hN26
  have hB30 := hB21.ext hE25
  have hC31 : Chg [] w15 w23 := hE25
  refine sq (opk_store hA24 hB27 (r_store (vs := [.nilFunc, .nilFunc, .func (.func 93) #[] #[], .func (.func 94) #[] #[], .func (.func 95) #[] #[], .func (.func 96) #[] #[], .func (.func 97) #[] #[], .func (.func 98) #[] #[], .func (.func 99) #[] #[], .func (.func 100) #[] #[], .func (.func 101) #[] #[], .func (.func 102) #[] #[], .func (.func 103) #[] #[], .func (.func 104) #[] #[]]) (hA24.get rfl) (hA24.get rfl) rfl ti_114 hB27 rfl (ones_all [.nilFunc, .nilFunc, .func (.func 93) #[] #[], .func (.func 94) #[] #[], .func (.func 95) #[] #[], .func (.func 96) #[] #[], .func (.func 97) #[] #[], .func (.func 98) #[] #[], .func (.func 99) #[] #[], .func (.func 100) #[] #[], .func (.func 101) #[] #[], .func (.func 102) #[] #[], .func (.func 103) #[] #[], .func (.func 104) #[] #[]] rfl)) fun a33 w32 hS34 hB35 hA33 => ?_)
  have hB36 : Box w32 B_22 114 [.nilFunc, .nilFunc, .func (.func 93) #[] #[], .func (.func 94) #[] #[], .func (.func 95) #[] #[], .func (.func 96) #[] #[], .func (.func 97) #[] #[], .func (.func 98) #[] #[], .func (.func 99) #[] #[], .func (.func 100) #[] #[], .func (.func 101) #[] #[], .func (.func 102) #[] #[], .func (.func 103) #[] #[], .func (.func 104) #[] #[]] := hB35
  have hB37 := hB30.keep hS34 (by simpa using hne28)
  have hC38 := hC31.storeNew hN29 hS34
  have hN39 := hN29.up hS34.size
  refine sq_end ?_
  have hA40 := hA33.keep [(1, .pointer (some (⟨B_2, 0, none⟩ : Addr))), (3, .pointer (some (⟨B_22, 0, none⟩ : Addr)))] ⟨rfl, rfl, trivial⟩
  refine then_normal ?_
  refine wp_seq ?_
  refine wp_seq ?_
  refine wp_region_lit ?_
  refine sq (opk_val hA40 rfl (r_fieldAddr (hA40.get rfl) Try.underlying48 rfl ti_3 (by decide)) fun a41 hA41 _ => ?_)
  refine sq (opk_val hA41 rfl (r_load1 Try.underlying3 rfl (hA41.get rfl) (hB37.cell 0 _ rfl)) fun a42 hA42 _ => ?_)
  refine sq (opk_val hA42 rfl (r_lss (hA42.get rfl) rfl) fun a43 hA43 _ => ?_)
  refine sq (opk_val hA43 rfl (r_move (hA43.get rfl)) fun a44 hA44 _ => ?_)
  refine sq (opk_gval hA44 rfl rfl (g := true) (e := (decide (o_1_Kind < 1))) rfl (fun hg => r_fieldAddr (hA44.get rfl) Try.underlying48 rfl ti_3 (by decide)) fun a45 hA45 _ => ?_)
  refine sq (opk_gval hA45 rfl rfl (g := true) (e := (decide (o_1_Kind < 1))) rfl (fun hg => r_load1 Try.underlying3 rfl (cv_get (hA45.get rfl) hg) (hB37.cell 0 _ rfl)) fun a46 hA46 _ => ?_)
  refine sq (opk_gval hA46 rfl rfl (g := true) (e := (decide (o_1_Kind < 1))) rfl (fun hg => r_gtr (cv_get (hA46.get rfl) hg) rfl) fun a47 hA47 _ => ?_)
  refine sq (opk_val hA47 rfl (r_pick_or (g := (true && ((decide (o_1_Kind < 1)) == false))) (hA47.get rfl) (hA47.get rfl) (fun he => g_mkf rfl he)) fun a48 hA48 _ => ?_)
  refine sq (opk_val hA48 rfl (r_move (hA48.get rfl)) fun a49 hA49 _ => ?_)
  refine sq (opk_gval hA49 rfl rfl (g := true) (e := ((decide (o_1_Kind < 1)) || (decide (6 < o_1_Kind)))) rfl (fun hg => r_fieldAddr (hA49.get rfl) Try.underlying48 rfl ti_3 (by decide)) fun a50 hA50 _ => ?_)
  refine sq (opk_gval hA50 rfl rfl (g := true) (e := ((decide (o_1_Kind < 1)) || (decide (6 < o_1_Kind)))) rfl (fun hg => r_load1 Try.underlying3 rfl (cv_get (hA50.get rfl) hg) (hB37.cell 1 _ rfl)) fun a51 hA51 _ => ?_)
  refine sq (opk_gval hA51 rfl rfl (g := true) (e := ((decide (o_1_Kind < 1)) || (decide (6 < o_1_Kind)))) rfl (fun hg => r_lss (cv_get (hA51.get rfl) hg) rfl) fun a52 hA52 _ => ?_)
  refine sq (opk_val hA52 rfl (r_pick_or (g := (true && (((decide (o_1_Kind < 1)) || (decide (6 < o_1_Kind))) == false))) (hA52.get rfl) (hA52.get rfl) (fun he => g_mkf rfl he)) fun a53 hA53 _ => ?_)
  refine sq (opk_val hA53 rfl (r_move (hA53.get rfl)) fun a54 hA54 _ => ?_)
  refine sq (opk_gval hA54 rfl rfl (g := true) (e := (((decide (o_1_Kind < 1)) || (decide (6 < o_1_Kind))) || (decide (o_1_ID < 0)))) rfl (fun hg => r_fieldAddr (hA54.get rfl) Try.underlying48 rfl ti_3 (by decide)) fun a55 hA55 _ => ?_)
  refine sq (opk_gval hA55 rfl rfl (g := true) (e := (((decide (o_1_Kind < 1)) || (decide (6 < o_1_Kind))) || (decide (o_1_ID < 0)))) rfl (fun hg => r_load1 Try.underlying3 rfl (cv_get (hA55.get rfl) hg) (hB37.cell 1 _ rfl)) fun a56 hA56 _ => ?_)
  refine sq (opk_gval hA56 rfl rfl (g := true) (e := (((decide (o_1_Kind < 1)) || (decide (6 < o_1_Kind))) || (decide (o_1_ID < 0)))) rfl (fun hg => r_gtr (cv_get (hA56.get rfl) hg) rfl) fun a57 hA57 _ => ?_)
  refine sq (opk_val hA57 rfl (r_pick_or (g := (true && ((((decide (o_1_Kind < 1)) || (decide (6 < o_1_Kind))) || (decide (o_1_ID < 0))) == false))) (hA57.get rfl) (hA57.get rfl) (fun he => g_mkf rfl he)) fun a58 hA58 _ => ?_)
  refine sq_end ?_
  have hA59 := hA58.keep [(1, .pointer (some (⟨B_2, 0, none⟩ : Addr))), (3, .pointer (some (⟨B_22, 0, none⟩ : Addr))), (23, .bool ((((decide (o_1_Kind < 1)) || (decide (6 < o_1_Kind))) || (decide (o_1_ID < 0))) || (decide (1048576 < o_1_ID))))] ⟨rfl, rfl, rfl, trivial⟩
  refine then_normal ?_
  refine wp_cond_split (hA59.get rfl) (fun hc => ?_) (fun hc => ?_)
  · have ht60 := ht16.1 ((b_or_t hc).imp (fun h => ((b_or_t h).imp (fun h => ((b_or_t h).imp (fun h => (of_decide_eq_true h)) (fun h => (of_decide_eq_true h)))) (fun h => (of_decide_eq_true h)))) (fun h => (of_decide_eq_true h)))
    clear hc
    refine wp_seq ?_
    refine wp_region_lit ?_
    refine sq (opk_val hA59 rfl (r_assign rfl) fun a62 hA62 _ => ?_)
    refine sq_end ?_
    have hA63 := hA62.keep [(2, .bool false)] ⟨rfl, trivial⟩
    refine then_normal ?_
    refine wp_ret ?_
    refine then_ret ?_
    have ht64 := ht60 w32 B_22 hN39  hC38
    exact res_all (vs := [.bool false]) rfl hA63 ⟨res_of_tmp hA63 rfl, trivial⟩ ht64
  · have ht61 := ht16.2 ⟨⟨⟨(of_decide_eq_false (b_or_f (b_or_f (b_or_f hc).1).1).1), (of_decide_eq_false (b_or_f (b_or_f (b_or_f hc).1).1).2)⟩, (of_decide_eq_false (b_or_f (b_or_f hc).1).2)⟩, (of_decide_eq_false (b_or_f hc).2)⟩
    clear hc
    refine wp_skip ?_
    refine then_normal ?_
    refine wp_seq ?_
    refine wp_seq ?_
    refine wp_region_lit ?_
    refine sq (opk_val hA59 rfl (r_fieldAddr (hA59.get rfl) Try.underlying48 rfl ti_3 (by decide)) fun a65 hA65 _ => ?_)
    refine sq (opk_val hA65 rfl (r_load1 Try.underlying3 rfl (hA65.get rfl) (hB37.cell 0 _ rfl)) fun a66 hA66 _ => ?_)
    refine sq (opk_val hA66 rfl (r_eql (hA66.get rfl) rfl) fun a67 hA67 _ => ?_)
    refine sq_end ?_
    have hA68 := hA67.keep [(1, .pointer (some (⟨B_2, 0, none⟩ : Addr))), (3, .pointer (some (⟨B_22, 0, none⟩ : Addr))), (26, .bool (decide (o_1_Kind = 1)))] ⟨rfl, rfl, rfl, trivial⟩
    refine then_normal ?_
    refine wp_cond_split (hA68.get rfl) (fun hc => ?_) (fun hc => ?_)
    · have ht69 := ht61.1 (of_decide_eq_true hc)
      clear hc
      refine wp_seq ?_
      refine wp_region_lit ?_
      refine sq (opk_val hA68 rfl (r_fieldAddr (hA68.get rfl) Try.underlying48 rfl ti_3 (by decide)) fun a71 hA71 _ => ?_)
      refine sq (opk_val hA71 rfl (r_load1 Try.underlying3 rfl (hA71.get rfl) (hB37.cell 4 _ rfl)) fun a72 hA72 _ => ?_)
      refine sq (opk_val hA72 rfl (r_geq (hA72.get rfl) rfl) fun a73 hA73 _ => ?_)
      refine sq (opk_val hA73 rfl (r_move (hA73.get rfl)) fun a74 hA74 _ => ?_)
      refine sq (opk_gval hA74 rfl rfl (g := true) (e := (decide (1 ≤ o_1_What))) rfl (fun hg => r_fieldAddr (hA74.get rfl) Try.underlying48 rfl ti_3 (by decide)) fun a75 hA75 _ => ?_)
      refine sq (opk_gval hA75 rfl rfl (g := true) (e := (decide (1 ≤ o_1_What))) rfl (fun hg => r_load1 Try.underlying3 rfl (cv_get (hA75.get rfl) hg) (hB37.cell 4 _ rfl)) fun a76 hA76 _ => ?_)
      refine sq (opk_gval hA76 rfl rfl (g := true) (e := (decide (1 ≤ o_1_What))) rfl (fun hg => r_leq (cv_get (hA76.get rfl) hg) rfl) fun a77 hA77 _ => ?_)
      refine sq (opk_val hA77 rfl (r_pick_and (g := (true && ((decide (1 ≤ o_1_What)) == true))) (hA77.get rfl) (hA77.get rfl) (fun he => g_mkt rfl he)) fun a78 hA78 _ => ?_)
      refine sq (opk_val hA78 rfl (r_assign (hA78.get rfl)) fun a79 hA79 _ => ?_)
      refine sq_end ?_
      have hA80 := hA79.keep [(2, .bool ((decide (1 ≤ o_1_What)) && (decide (o_1_What ≤ 5))))] ⟨rfl, trivial⟩
      refine then_normal ?_
      refine wp_ret ?_
      refine then_ret ?_
      have ht81 := ht69 w32 B_22 hN39  hC38
      exact res_all (vs := [.bool ((decide (1 ≤ o_1_What)) && (decide (o_1_What ≤ 5)))]) rfl hA80 ⟨res_of_tmp hA80 rfl, trivial⟩ ht81
    · have ht70 := ht61.2 (of_decide_eq_false hc)
      clear hc
      refine wp_skip ?_
      refine then_normal ?_
      refine wp_seq ?_
      refine draw' (by kernel_rfl) fun w82 hE83 => ?_
      have hB84 := hB37.ext hE83
      have hB85 := hB36.ext hE83
      have hC86 := hC38.more hE83
      have hN87 := hN39.up hE83.size
      have ht88 := ht70 w82 B_22 hN87  hC86
      obtain ⟨hS91, ht92⟩ := ht88
      obtain ⟨f_97, fst_98, cap_99, hp100, hb102, ht101⟩ := ht92
      obtain ⟨V_104, hst105, hc106, ht107⟩ := ht101
      refine par (D := [[], [0], [0, 1], [0, 1, 2], [0, 1, 2, 3], [], [0, 1, 2, 3, 4, 5], [], [0, 1, 2, 3, 4, 5, 6, 7]]) (S := [0, 1, 2, 3, 4, 5, 6, 7]) (F := []) (V := VL [(0, fun v _ => v = .pointer (some (⟨B_2, 0, none⟩ : Addr))), (1, fun v _ => v = .int .i64 o_1_Kind), (2, fun v _ => v = .pointer (some ((⟨B_22, 0, none⟩ : Addr).add (o_1_Kind.toNat * 2)))), (3, fun v _ => v = .pointer (some (((⟨B_22, 0, none⟩ : Addr).add (o_1_Kind.toNat * 2)).add 1))), (4, fun v _ => v = (([.nilFunc, .nilFunc, .func (.func 93) #[] #[], .func (.func 94) #[] #[], .func (.func 95) #[] #[], .func (.func 96) #[] #[], .func (.func 97) #[] #[], .func (.func 98) #[] #[], .func (.func 99) #[] #[], .func (.func 100) #[] #[], .func (.func 101) #[] #[], .func (.func 102) #[] #[], .func (.func 103) #[] #[], .func (.func 104) #[] #[]] : List Value).getD (o_1_Kind.toNat * 2 + 1) .nilFunc)), (5, fun v _ => v = .agg #[.int .i64 o_1_Kind, .int .i64 o_1_ID, .int .i64 o_1_Parent, .int .i64 o_1_At, .int .i64 o_1_What, .string (Bs o_1_Name), .string (Bs o_1_Text)]), (6, fun v w' => ∃ r_103_Kind : Int, ∃ r_103_ID : Int, ∃ r_103_Parent : Int, ∃ r_103_At : Int, ∃ r_103_What : Int, ∃ r_103_Name : Str, ∃ r_103_Text : Str, V_104 r_103_Kind r_103_ID r_103_Parent r_103_At r_103_What r_103_Name r_103_Text w' ∧ v = .agg #[.int .i64 r_103_Kind, .int .i64 r_103_ID, .int .i64 r_103_Parent, .int .i64 r_103_At, .int .i64 r_103_What, .string (Bs r_103_Name), .string (Bs r_103_Text)]), (7, fun v w' => ∃ B_108 : Nat, w82.heap.size ≤ B_108 ∧ Box w' B_108 48 [.int .i64 0, .int .i64 0, .int .i64 0, .int .i64 0, .int .i64 0, .string (Bs ([] : Str)), .string (Bs ([] : Str))] ∧ v = .pointer (some (⟨B_108, 0, none⟩ : Addr)))]) hA68 (by kernel_rfl) ⟨fun _ _ _ _ h => by first | exact h | (change _ = _ at h; change _ = _; exact h), fun _ _ _ _ h => by first | exact h | (change _ = _ at h; change _ = _; exact h), fun _ _ _ _ h => by first | exact h | (change _ = _ at h; change _ = _; exact h), fun _ _ _ _ h => by first | exact h | (change _ = _ at h; change _ = _; exact h), fun _ _ _ _ h => by first | exact h | (change _ = _ at h; change _ = _; exact h), fun _ _ _ _ h => by first | exact h | (change _ = _ at h; change _ = _; exact h), fun _ _ _ hE ⟨r_103_Kind, r_103_ID, r_103_Parent, r_103_At, r_103_What, r_103_Name, r_103_Text, h0_, e⟩ => ⟨r_103_Kind, r_103_ID, r_103_Parent, r_103_At, r_103_What, r_103_Name, r_103_Text, (hst105 r_103_Kind r_103_ID r_103_Parent r_103_At r_103_What r_103_Name r_103_Text _ _ hE h0_), e⟩, fun _ _ _ hE ⟨B_108, h0_, h1_, e⟩ => ⟨B_108, h0_, (h1_.ext hE), e⟩, trivial⟩ ⟨?_, ?_, ?_, ?_, ?_, ?_, ?_, ?_, trivial⟩ ?_
      · intro a w hT
        have hAp := hT.ag hA68 [(1, .pointer (some (⟨B_2, 0, none⟩ : Addr)))] ⟨rfl, trivial⟩ (by kernel_rfl)
        exact opk_val hAp rfl (r_fieldAddr (hAp.get rfl) Try.underlying48 rfl ti_3 (by decide)) fun _ _ e => ⟨_, e, Chg.refl _ _, fun _ => Eq.refl _⟩
      · intro a w hT
        have hAp := hT.ag hA68 [] trivial (by kernel_rfl)
        have e89 : a.tmps.getD 35 undef = .pointer (some (⟨B_2, 0, none⟩ : Addr)) := hT.vals 0 rfl 35 rfl
        have hAp := hAp.add e89
        exact opk_val hAp rfl (r_load1 Try.underlying3 rfl (hAp.get rfl) ((hB84.ext hT.chg).cell 0 _ rfl)) fun _ _ e => ⟨_, e, Chg.refl _ _, fun _ => Eq.refl _⟩
      · intro a w hT
        have hAp := hT.ag hA68 [(3, .pointer (some (⟨B_22, 0, none⟩ : Addr)))] ⟨rfl, trivial⟩ (by kernel_rfl)
        have e90 : a.tmps.getD 36 undef = .int .i64 o_1_Kind := hT.vals 1 rfl 36 rfl
        have hAp := hAp.add e90
        exact opk_val hAp rfl (r_indexAddrA (hAp.get rfl) (hAp.get rfl) Try.underlying114 ti_113 hS91) fun _ _ e => ⟨_, e, Chg.refl _ _, fun _ => Eq.refl _⟩
      · intro a w hT
        have hAp := hT.ag hA68 [] trivial (by kernel_rfl)
        have e93 : a.tmps.getD 37 undef = .pointer (some ((⟨B_22, 0, none⟩ : Addr).add (o_1_Kind.toNat * 2))) := hT.vals 2 rfl 37 rfl
        have hAp := hAp.add e93
        exact opk_val hAp rfl (r_fieldAddr (hAp.get rfl) Try.underlying113 rfl ti_111 (by decide)) fun _ _ e => ⟨_, e, Chg.refl _ _, fun _ => Eq.refl _⟩
      · intro a w hT
        have hAp := hT.ag hA68 [] trivial (by kernel_rfl)
        have e94 : a.tmps.getD 38 undef = .pointer (some (((⟨B_22, 0, none⟩ : Addr).add (o_1_Kind.toNat * 2)).add 1)) := hT.vals 3 rfl 38 rfl
        have hAp := hAp.add e94
        exact opk_val hAp rfl (r_load1 Try.underlying111 rfl (hAp.get rfl) (Box.cellAt (hB85.ext hT.chg) rfl hS91 (by decide))) fun _ _ e => ⟨_, e, Chg.refl _ _, fun _ => Eq.refl _⟩
      · intro a w hT
        have hAp := hT.ag hA68 [(1, .pointer (some (⟨B_2, 0, none⟩ : Addr)))] ⟨rfl, trivial⟩ (by kernel_rfl)
        exact opk_val hAp rfl (r_loadN (cs := [.int .i64 o_1_Kind, .int .i64 o_1_ID, .int .i64 o_1_Parent, .int .i64 o_1_At, .int .i64 o_1_What, .string (Bs o_1_Name), .string (Bs o_1_Text)]) Try.underlying48 rfl ti_48 (hAp.get rfl) ((hB84.ext hT.chg).part 0 _ rfl)) fun _ _ e => ⟨_, e, Chg.refl _ _, fun _ => Eq.refl _⟩
      · intro a w hT
        have hAp := hT.ag hA68 [] trivial (by kernel_rfl)
        have e95 : a.tmps.getD 39 undef = (([.nilFunc, .nilFunc, .func (.func 93) #[] #[], .func (.func 94) #[] #[], .func (.func 95) #[] #[], .func (.func 96) #[] #[], .func (.func 97) #[] #[], .func (.func 98) #[] #[], .func (.func 99) #[] #[], .func (.func 100) #[] #[], .func (.func 101) #[] #[], .func (.func 102) #[] #[], .func (.func 103) #[] #[], .func (.func 104) #[] #[]] : List Value).getD (o_1_Kind.toNat * 2 + 1) .nilFunc) := hT.vals 4 rfl 39 rfl
        have hAp := hAp.add e95
        have e96 : a.tmps.getD 40 undef = .agg #[.int .i64 o_1_Kind, .int .i64 o_1_ID, .int .i64 o_1_Parent, .int .i64 o_1_At, .int .i64 o_1_What, .string (Bs o_1_Name), .string (Bs o_1_Text)] := hT.vals 5 rfl 40 rfl
        have hAp := hAp.add e96
        exact opk_callX hAp rfl (r_callO (args := #[.agg #[.int .i64 o_1_Kind, .int .i64 o_1_ID, .int .i64 o_1_Parent, .int .i64 o_1_At, .int .i64 o_1_What, .string (Bs o_1_Name), .string (Bs o_1_Text)]]) hb102 (map_arr (ml_cons (hAp.get rfl) ml_nil)) (((hAp.get rfl)).trans hp100)) (hc106 w hT.chg) fun _ _ _ _ e ⟨hE, r_103_Kind, r_103_ID, r_103_Parent, r_103_At, r_103_What, r_103_Name, r_103_Text, he, hV⟩ => ⟨_, e, hE, fun _ => ⟨r_103_Kind, r_103_ID, r_103_Parent, r_103_At, r_103_What, r_103_Name, r_103_Text, hV, he⟩⟩
      · intro a w hT
        have hAp := hT.ag hA68 [] trivial (by kernel_rfl)
        exact opk_new (fun B => .pointer (some ⟨B, 0, none⟩)) hAp rfl (r_alloc (cs := [.int .i64 0, .int .i64 0, .int .i64 0, .int .i64 0, .int .i64 0, .string (Bs ([] : Str)), .string (Bs ([] : Str))]) ti_48 rfl) fun _ w109 B_108 hE110 hN111 hB112 _ e => ⟨_, e, hE110, fun _ => ⟨B_108, Nat.le_trans hT.chg.size hN111.ge, hB112, rfl⟩⟩
      · intro a113 w114 hE115 hag116 hv117
        have hA113 := hag116 [(1, .pointer (some (⟨B_2, 0, none⟩ : Addr)))] ⟨rfl, trivial⟩ (by kernel_rfl)
        obtain ⟨r_103_Kind, r_103_ID, r_103_Parent, r_103_At, r_103_What, r_103_Name, r_103_Text, hf121, e119⟩ := hv117 6 rfl 41 rfl
        have hA120 := hA113.add e119
        obtain ⟨B_108, hf124, hf125, e122⟩ := hv117 7 rfl 4 rfl
        have hA123 := hA120.add e122
        have hB126 := hB84.ext hE115
        have hB127 := hB85.ext hE115
        have hC128 : Chg [] w82 w114 := hE115
        have ht129 := ht107 w114 r_103_Kind r_103_ID r_103_Parent r_103_At r_103_What r_103_Name r_103_Text B_108 hE115 hf121 hf124 hf125
        have hne130 : B_2 ≠ B_108 := Nat.ne_of_lt (Nat.lt_of_lt_of_le hB84.lt hf124)
        have hne131 : B_22 ≠ B_108 := Nat.ne_of_lt (Nat.lt_of_lt_of_le hB85.lt hf124)
        refine one (D := [[], [0], [0, 1], [0, 1, 2], [0, 1, 2, 3], [], [0, 1, 2, 3, 4, 5], [], [0, 1, 2, 3, 4, 5, 6, 7]]) (i := 8) rfl (by kernel_rfl) (opk_store hA123 hf125 (r_store (vs := [.int .i64 r_103_Kind, .int .i64 r_103_ID, .int .i64 r_103_Parent, .int .i64 r_103_At, .int .i64 r_103_What, .string (Bs r_103_Name), .string (Bs r_103_Text)]) (hA123.get rfl) (hA123.get rfl) rfl ti_48 hf125 rfl (ones_all [.int .i64 r_103_Kind, .int .i64 r_103_ID, .int .i64 r_103_Parent, .int .i64 r_103_At, .int .i64 r_103_What, .string (Bs r_103_Name), .string (Bs r_103_Text)] rfl)) fun a133 w132 hS134 hB135 hA133 => ?_)
        have hB136 : Box w132 B_108 48 [.int .i64 r_103_Kind, .int .i64 r_103_ID, .int .i64 r_103_Parent, .int .i64 r_103_At, .int .i64 r_103_What, .string (Bs r_103_Name), .string (Bs r_103_Text)] := hB135
        have hB137 := hB126.keep hS134 (by simpa using hne130)
        have hB138 := hB127.keep hS134 (by simpa using hne131)
        have hC139 : Chg [B_108] w114 w132 := hS134
        refine PR_end (by kernel_rfl) ?_
        have hA140 := hA133.keep [(1, .pointer (some (⟨B_2, 0, none⟩ : Addr))), (4, .pointer (some (⟨B_108, 0, none⟩ : Addr)))] ⟨rfl, rfl, trivial⟩
        refine then_normal ?_
        refine wp_seq ?_
        refine wp_region_lit ?_
        refine sq (opk_val hA140 rfl (r_fieldAddr (hA140.get rfl) Try.underlying48 rfl ti_3 (by decide)) fun a141 hA141 _ => ?_)
        refine sq (opk_val hA141 rfl (r_load1 Try.underlying3 rfl (hA141.get rfl) (hB137.cell 2 _ rfl)) fun a142 hA142 _ => ?_)
        refine sq (opk_val hA142 rfl (r_fieldAddr (hA142.get rfl) Try.underlying48 rfl ti_3 (by decide)) fun a143 hA143 _ => ?_)
        refine sq (opk_val hA143 rfl (r_load1 Try.underlying3 rfl (hA143.get rfl) (hB136.cell 2 _ rfl)) fun a144 hA144 _ => ?_)
        refine sq (opk_val hA144 rfl (r_eql (hA144.get rfl) (hA144.get rfl)) fun a145 hA145 _ => ?_)
        refine sq (opk_val hA145 rfl (r_move (hA145.get rfl)) fun a146 hA146 _ => ?_)
        refine sq (opk_gval hA146 rfl rfl (g := true) (e := (decide (o_1_Parent = r_103_Parent))) rfl (fun hg => r_fieldAddr (hA146.get rfl) Try.underlying48 rfl ti_3 (by decide)) fun a147 hA147 _ => ?_)
        refine sq (opk_gval hA147 rfl rfl (g := true) (e := (decide (o_1_Parent = r_103_Parent))) rfl (fun hg => r_load1 Try.underlying3 rfl (cv_get (hA147.get rfl) hg) (hB137.cell 3 _ rfl)) fun a148 hA148 _ => ?_)
        refine sq (opk_gval hA148 rfl rfl (g := true) (e := (decide (o_1_Parent = r_103_Parent))) rfl (fun hg => r_fieldAddr (hA148.get rfl) Try.underlying48 rfl ti_3 (by decide)) fun a149 hA149 _ => ?_)
        refine sq (opk_gval hA149 rfl rfl (g := true) (e := (decide (o_1_Parent = r_103_Parent))) rfl (fun hg => r_load1 Try.underlying3 rfl (cv_get (hA149.get rfl) hg) (hB136.cell 3 _ rfl)) fun a150 hA150 _ => ?_)
        refine sq (opk_gval hA150 rfl rfl (g := true) (e := (decide (o_1_Parent = r_103_Parent))) rfl (fun hg => r_eql (cv_get (hA150.get rfl) hg) (cv_get (hA150.get rfl) hg)) fun a151 hA151 _ => ?_)
        refine sq (opk_val hA151 rfl (r_pick_and (g := (true && ((decide (o_1_Parent = r_103_Parent)) == true))) (hA151.get rfl) (hA151.get rfl) (fun he => g_mkt rfl he)) fun a152 hA152 _ => ?_)
        refine sq (opk_val hA152 rfl (r_move (hA152.get rfl)) fun a153 hA153 _ => ?_)
        refine sq (opk_gval hA153 rfl rfl (g := true) (e := ((decide (o_1_Parent = r_103_Parent)) && (decide (o_1_At = r_103_At)))) rfl (fun hg => r_fieldAddr (hA153.get rfl) Try.underlying48 rfl ti_3 (by decide)) fun a154 hA154 _ => ?_)
        refine sq (opk_gval hA154 rfl rfl (g := true) (e := ((decide (o_1_Parent = r_103_Parent)) && (decide (o_1_At = r_103_At)))) rfl (fun hg => r_load1 Try.underlying3 rfl (cv_get (hA154.get rfl) hg) (hB137.cell 4 _ rfl)) fun a155 hA155 _ => ?_)
        refine sq (opk_gval hA155 rfl rfl (g := true) (e := ((decide (o_1_Parent = r_103_Parent)) && (decide (o_1_At = r_103_At)))) rfl (fun hg => r_eql (cv_get (hA155.get rfl) hg) rfl) fun a156 hA156 _ => ?_)
        refine sq (opk_val hA156 rfl (r_pick_and (g := (true && (((decide (o_1_Parent = r_103_Parent)) && (decide (o_1_At = r_103_At))) == true))) (hA156.get rfl) (hA156.get rfl) (fun he => g_mkt rfl he)) fun a157 hA157 _ => ?_)
        refine sq (opk_val hA157 rfl (r_move (hA157.get rfl)) fun a158 hA158 _ => ?_)
        refine sq (opk_gval hA158 rfl rfl (g := true) (e := (((decide (o_1_Parent = r_103_Parent)) && (decide (o_1_At = r_103_At))) && (decide (o_1_What = 0)))) rfl (fun hg => r_fieldAddr (hA158.get rfl) Try.underlying48 rfl ti_9 (by decide)) fun a159 hA159 _ => ?_)
        refine sq (opk_gval hA159 rfl rfl (g := true) (e := (((decide (o_1_Parent = r_103_Parent)) && (decide (o_1_At = r_103_At))) && (decide (o_1_What = 0)))) rfl (fun hg => r_load1 Try.underlying9 rfl (cv_get (hA159.get rfl) hg) (hB137.cell 5 _ rfl)) fun a160 hA160 _ => ?_)
        refine sq (opk_gval hA160 rfl rfl (g := true) (e := (((decide (o_1_Parent = r_103_Parent)) && (decide (o_1_At = r_103_At))) && (decide (o_1_What = 0)))) rfl (fun hg => r_fieldAddr (hA160.get rfl) Try.underlying48 rfl ti_9 (by decide)) fun a161 hA161 _ => ?_)
        refine sq (opk_gval hA161 rfl rfl (g := true) (e := (((decide (o_1_Parent = r_103_Parent)) && (decide (o_1_At = r_103_At))) && (decide (o_1_What = 0)))) rfl (fun hg => r_load1 Try.underlying9 rfl (cv_get (hA161.get rfl) hg) (hB136.cell 5 _ rfl)) fun a162 hA162 _ => ?_)
        refine sq (opk_gval hA162 rfl rfl (g := true) (e := (((decide (o_1_Parent = r_103_Parent)) && (decide (o_1_At = r_103_At))) && (decide (o_1_What = 0)))) rfl (fun hg => r_seql (cv_get (hA162.get rfl) hg) (cv_get (hA162.get rfl) hg)) fun a163 hA163 _ => ?_)
        refine sq (opk_val hA163 rfl (r_pick_and (g := (true && ((((decide (o_1_Parent = r_103_Parent)) && (decide (o_1_At = r_103_At))) && (decide (o_1_What = 0))) == true))) (hA163.get rfl) (hA163.get rfl) (fun he => g_mkt rfl he)) fun a164 hA164 _ => ?_)
        refine sq (opk_val hA164 rfl (r_move (hA164.get rfl)) fun a165 hA165 _ => ?_)
        refine sq (opk_gval hA165 rfl rfl (g := true) (e := ((((decide (o_1_Parent = r_103_Parent)) && (decide (o_1_At = r_103_At))) && (decide (o_1_What = 0))) && (decide (o_1_Name = r_103_Name)))) rfl (fun hg => r_fieldAddr (hA165.get rfl) Try.underlying48 rfl ti_9 (by decide)) fun a166 hA166 _ => ?_)
        refine sq (opk_gval hA166 rfl rfl (g := true) (e := ((((decide (o_1_Parent = r_103_Parent)) && (decide (o_1_At = r_103_At))) && (decide (o_1_What = 0))) && (decide (o_1_Name = r_103_Name)))) rfl (fun hg => r_load1 Try.underlying9 rfl (cv_get (hA166.get rfl) hg) (hB137.cell 6 _ rfl)) fun a167 hA167 _ => ?_)
        refine sq (opk_gval hA167 rfl rfl (g := true) (e := ((((decide (o_1_Parent = r_103_Parent)) && (decide (o_1_At = r_103_At))) && (decide (o_1_What = 0))) && (decide (o_1_Name = r_103_Name)))) rfl (fun hg => r_fieldAddr (hA167.get rfl) Try.underlying48 rfl ti_9 (by decide)) fun a168 hA168 _ => ?_)
        refine sq (opk_gval hA168 rfl rfl (g := true) (e := ((((decide (o_1_Parent = r_103_Parent)) && (decide (o_1_At = r_103_At))) && (decide (o_1_What = 0))) && (decide (o_1_Name = r_103_Name)))) rfl (fun hg => r_load1 Try.underlying9 rfl (cv_get (hA168.get rfl) hg) (hB136.cell 6 _ rfl)) fun a169 hA169 _ => ?_)
        refine sq (opk_gval hA169 rfl rfl (g := true) (e := ((((decide (o_1_Parent = r_103_Parent)) && (decide (o_1_At = r_103_At))) && (decide (o_1_What = 0))) && (decide (o_1_Name = r_103_Name)))) rfl (fun hg => r_seql (cv_get (hA169.get rfl) hg) (cv_get (hA169.get rfl) hg)) fun a170 hA170 _ => ?_)
        refine sq (opk_val hA170 rfl (r_pick_and (g := (true && (((((decide (o_1_Parent = r_103_Parent)) && (decide (o_1_At = r_103_At))) && (decide (o_1_What = 0))) && (decide (o_1_Name = r_103_Name))) == true))) (hA170.get rfl) (hA170.get rfl) (fun he => g_mkt rfl he)) fun a171 hA171 _ => ?_)
        refine sq (opk_val hA171 rfl (r_assign (hA171.get rfl)) fun a172 hA172 _ => ?_)
        refine sq_end ?_
        have hA173 := hA172.keep [(2, .bool (((((decide (o_1_Parent = r_103_Parent)) && (decide (o_1_At = r_103_At))) && (decide (o_1_What = 0))) && (decide (o_1_Name = r_103_Name))) && (decide (o_1_Text = r_103_Text))))] ⟨rfl, trivial⟩
        refine then_normal ?_
        refine wp_ret ?_
        have ht174 := ht129 w132    hC139
        exact res_all (vs := [.bool (((((decide (o_1_Parent = r_103_Parent)) && (decide (o_1_At = r_103_At))) && (decide (o_1_What = 0))) && (decide (o_1_Name = r_103_Name))) && (decide (o_1_Text = r_103_Text)))]) rfl hA173 ⟨res_of_tmp hA173 rfl, trivial⟩ ht174

/-- The condition of topiary/apply.run. -/
def apply_run.vc (t_1_Kind : Int) (t_1_Name : Str) (t_1_Text : Str) (t_1_Attrs : Sl) (t_1_Kids : Sl) (l_2 : Sl) (behind_3 : Value) (R : Value → World → Prop) (w : World) : Prop :=
∀ (w5 : World) (B_4 : Nat), New w B_4 w5 → Chg [] w w5 →
CallK Try.prog 13 #[.agg #[.int .i64 t_1_Kind, .string (Bs t_1_Name), .string (Bs t_1_Text), Sl.v t_1_Attrs, Sl.v t_1_Kids]] w5 [B_4] (fun v w21 => ∃ (r_0_18 : Option Addr) (r_1_19 : Int), v = .tuple #[.pointer r_0_18, .int .i64 r_1_19] ∧
((r_1_19 ≠ 0) →
R (.tuple #[.pointer none, .int .i64 0, .int .i64 r_1_19]) w21) ∧
((¬ (r_1_19 ≠ 0)) →
((1500 < (l_2.n : Int)) →
R (.tuple #[.pointer none, .int .i64 0, .int .i64 2]) w21) ∧
((¬ (1500 < (l_2.n : Int))) →
CallK Try.prog 84 #[] w21 [] (fun v w58 => v = .agg #[.nilFunc, .nilFunc, .func (.func 93) #[] #[], .func (.func 94) #[] #[], .func (.func 95) #[] #[], .func (.func 96) #[] #[], .func (.func 97) #[] #[], .func (.func 98) #[] #[], .func (.func 99) #[] #[], .func (.func 100) #[] #[], .func (.func 101) #[] #[], .func (.func 102) #[] #[], .func (.func 103) #[] #[], .func (.func 104) #[] #[]] ∧
∀ (w72 : World) (B_64 : Nat), New w58 B_64 w72 → Chg [] w58 w72 →
∃ (J_86 : Int → World → Prop) (mu_87 : Int → World → Nat),
J_86 0 w72 ∧
(∀ (x_84 : Int) (w85 : World), J_86 x_84 w85 →
((x_84 < (l_2.n : Int)) →
((0 : Int) ≤ x_84 ∧ x_84 < (l_2.n : Int)) ∧ ∃ p_238 : Addr, l_2.a = some p_238 ∧
∃ (x_244_Kind : Int) (x_244_ID : Int) (x_244_Parent : Int) (x_244_At : Int) (x_244_What : Int) (x_244_Name : Str) (x_244_Text : Str), (Cells w85 (p_238.add (x_84.toNat * 7)) [.int .i64 x_244_Kind, .int .i64 x_244_ID, .int .i64 x_244_Parent, .int .i64 x_244_At, .int .i64 x_244_What, .string (Bs x_244_Name), .string (Bs x_244_Text)]) ∧
∀ (w258 : World) (B_247 : Nat), New w85 B_247 w258 → Chg [] w85 w258 →
CallK Try.prog 65 #[.agg #[.int .i64 x_244_Kind, .int .i64 x_244_ID, .int .i64 x_244_Parent, .int .i64 x_244_At, .int .i64 x_244_What, .string (Bs x_244_Name), .string (Bs x_244_Text)]] w258 [B_64, B_247] (fun v w271 => ∃ (r_269 : Bool), v = .bool r_269 ∧
((r_269 = false) →
R (.tuple #[.pointer none, .int .i64 x_84, .int .i64 15]) w271) ∧
((r_269 = true) →
∀ (w288 : World), Chg [] w271 w288 →
((0 : Int) ≤ x_244_Kind ∧ x_244_Kind < 7) ∧
∃ (f_315 : FuncId) (fst_316 cap_317 : Array Value), ((([.nilFunc, .nilFunc, .func (.func 93) #[] #[], .func (.func 94) #[] #[], .func (.func 95) #[] #[], .func (.func 96) #[] #[], .func (.func 97) #[] #[], .func (.func 98) #[] #[], .func (.func 99) #[] #[], .func (.func 100) #[] #[], .func (.func 101) #[] #[], .func (.func 102) #[] #[], .func (.func 103) #[] #[], .func (.func 104) #[] #[]] : List Value).getD (x_244_Kind.toNat * 2 + 0) .nilFunc) = .func (.func f_315) fst_316 cap_317) ∧
∀ (w301 : World), Chg [] w288 w301 →
Body Try.prog f_315 ∧
CallK Try.prog f_315 (fst_316 ++ #[.pointer r_0_18, .agg #[.int .i64 x_244_Kind, .int .i64 x_244_ID, .int .i64 x_244_Parent, .int .i64 x_244_At, .int .i64 x_244_What, .string (Bs x_244_Name), .string (Bs x_244_Text)]] ++ cap_317) w301 [B_64, B_247] (fun v w323 => ∃ (r_321 : Int), v = .int .i64 r_321 ∧
((r_321 ≠ 0) →
R (.tuple #[.pointer none, .int .i64 x_84, .int .i64 r_321]) w323) ∧
((¬ (r_321 ≠ 0)) →
∃ (f_348 : FuncId) (fst_349 cap_350 : Array Value), (behind_3 = .func (.func f_348) fst_349 cap_350) ∧
Body Try.prog f_348 ∧
CallK Try.prog f_348 (fst_349 ++ #[.pointer r_0_18] ++ cap_350) w323 [B_64] (fun v w354 => v = .tuple #[] ∧
(I64 (x_84 + 1)) ∧
J_86 (x_84 + 1) w354 ∧ mu_87 (x_84 + 1) w354 < mu_87 x_84 w85)))))) ∧
((¬ (x_84 < (l_2.n : Int))) →
R (.tuple #[.pointer r_0_18, .int .i64 (l_2.n : Int), .int .i64 0]) w85))))))
set_option maxHeartbeats 1000000 in
set_option maxRecDepth 10000 in
theorem apply_run.ok (t_1_Kind : Int) (t_1_Name : Str) (t_1_Text : Str) (t_1_Attrs : Sl) (t_1_Kids : Sl) (l_2 : Sl) (behind_3 : Value) {R : Value → World → Prop} {w : World} (ht0 : apply_run.vc t_1_Kind t_1_Name t_1_Text t_1_Attrs t_1_Kids l_2 behind_3 R w) : Calls Try.prog 66 #[.agg #[.int .i64 t_1_Kind, .string (Bs t_1_Name), .string (Bs t_1_Text), Sl.v t_1_Attrs, Sl.v t_1_Kids], Sl.v l_2, behind_3] w (Ret R) := by
  refine enter [.agg #[.int .i64 t_1_Kind, .string (Bs t_1_Name), .string (Bs t_1_Text), Sl.v t_1_Attrs, Sl.v t_1_Kids], Sl.v l_2, behind_3] Try.func66 rfl Try.ntmps66 rfl ?_
  intro a0 hA0
  unfold apply_run.vc at ht0
  refine wp_seq ?_
  refine wp_region_lit ?_
  refine sq (opk_new (fun B => .pointer (some ⟨B, 0, none⟩)) hA0 rfl (r_box (cs := [.int .i64 t_1_Kind, .string (Bs t_1_Name), .string (Bs t_1_Text), Sl.v t_1_Attrs, Sl.v t_1_Kids]) (hA0.get rfl) rfl) fun a6 w5 B_4 hE7 hN8 hB9 hA6 _ => ?_)
  have hN10 : New w B_4 w5 := hN8
  have hC11 : Chg [] w w5 := hE7
  refine sq (opk_val hA6 rfl (r_assign rfl) fun a12 hA12 _ => ?_)
  refine sq (opk_val hA12 rfl (r_assign rfl) fun a13 hA13 _ => ?_)
  refine sq (opk_val hA13 rfl (r_assign rfl) fun a14 hA14 _ => ?_)
  refine sq_end ?_
  have hA15 := hA14.keep [(1, Sl.v l_2), (2, behind_3), (3, .pointer (some (⟨B_4, 0, none⟩ : Addr)))] ⟨rfl, rfl, rfl, trivial⟩
  refine then_normal ?_
  refine wp_seq ?_
  refine wp_region_lit ?_
  refine sq (opk_val hA15 rfl (r_loadN (cs := [.int .i64 t_1_Kind, .string (Bs t_1_Name), .string (Bs t_1_Text), Sl.v t_1_Attrs, Sl.v t_1_Kids]) Try.underlying29 rfl ti_29 (hA15.get rfl) (hB9.part 0 _ rfl)) fun a16 hA16 _ => ?_)
  have ht17 := ht0 w5 B_4 hN10  hC11
  refine sq (opk_call hA16 rfl (r_call (args := #[.agg #[.int .i64 t_1_Kind, .string (Bs t_1_Name), .string (Bs t_1_Text), Sl.v t_1_Attrs, Sl.v t_1_Kids]]) Try.func13 (by decide) rfl (map_arr (ml_cons (hA16.get rfl) ml_nil)) rfl) ht17 fun a20 v26 w21 hA20 _ hn23 hz24 hK25 => ?_)
  obtain ⟨r_0_18, r_1_19, rfl, ht22⟩ := hK25
  have hB27 := hB9.kept hn23 (.head _)
  refine sq (opk_val hA20 rfl (r_move (hA20.get rfl)) fun a28 hA28 _ => ?_)
  refine sq (opk_val hA28 rfl (r_extract (hA28.get rfl) rfl) fun a29 hA29 _ => ?_)
  refine sq (opk_val hA29 rfl (r_extract (hA29.get rfl) rfl) fun a30 hA30 _ => ?_)
  refine sq (opk_val hA30 rfl (r_assign (hA30.get rfl)) fun a31 hA31 _ => ?_)
  refine sq (opk_val hA31 rfl (r_assign (hA31.get rfl)) fun a32 hA32 _ => ?_)
  refine sq_end ?_
  have hA33 := hA32.keep [(1, Sl.v l_2), (2, behind_3), (9, .pointer r_0_18), (10, .int .i64 r_1_19)] ⟨rfl, rfl, rfl, rfl, trivial⟩
  refine then_normal ?_
  refine wp_seq ?_
  refine wp_block ?_
  refine wp_seq ?_
  refine wp_region_lit ?_
  refine sq (opk_val hA33 rfl (r_move (hA33.get rfl)) fun a34 hA34 _ => ?_)
  refine sq (opk_val hA34 rfl (r_neq (hA34.get rfl) rfl) fun a35 hA35 _ => ?_)
  refine sq (opk_val hA35 rfl (r_assign (hA35.get rfl)) fun a36 hA36 _ => ?_)
  refine sq_end ?_
  have hA37 := hA36.keep [(1, Sl.v l_2), (2, behind_3), (9, .pointer r_0_18), (10, .int .i64 r_1_19), (20, .bool (decide (r_1_19 ≠ 0)))] ⟨rfl, rfl, rfl, rfl, rfl, trivial⟩
  refine then_normal ?_
  refine wp_cond_split (hA37.get rfl) (fun hc => ?_) (fun hc => ?_)
  · have ht38 := ht22.1 (of_decide_eq_true hc)
    clear hc
    refine wp_seq ?_
    refine wp_region_lit ?_
    refine sq (opk_val hA37 rfl (r_move (hA37.get rfl)) fun a40 hA40 _ => ?_)
    refine sq (opk_val hA40 rfl (r_assign rfl) fun a41 hA41 _ => ?_)
    refine sq (opk_val hA41 rfl (r_assign rfl) fun a42 hA42 _ => ?_)
    refine sq (opk_val hA42 rfl (r_assign (hA42.get rfl)) fun a43 hA43 _ => ?_)
    refine sq_end ?_
    have hA44 := hA43.keep [(6, .pointer none), (7, .int .i64 0), (8, .int .i64 r_1_19)] ⟨rfl, rfl, rfl, trivial⟩
    refine then_normal ?_
    refine wp_ret ?_
    refine block_ret ?_
    refine then_ret ?_
    exact res_all (vs := [.pointer none, .int .i64 0, .int .i64 r_1_19]) rfl hA44 ⟨res_of_tmp hA44 rfl, res_of_tmp hA44 rfl, res_of_tmp hA44 rfl, trivial⟩ ht38
  · have ht39 := ht22.2 (of_decide_eq_false hc)
    clear hc
    refine wp_seq ?_
    refine wp_region_lit ?_
    refine sq (opk_val hA37 rfl (r_move (hA37.get rfl)) fun a45 hA45 _ => ?_)
    refine sq (opk_val hA45 rfl (r_len (hA45.get rfl) Try.underlying46) fun a46 hA46 _ => ?_)
    refine sq (opk_val hA46 rfl (r_gtr (hA46.get rfl) rfl) fun a47 hA47 _ => ?_)
    refine sq (opk_val hA47 rfl (r_assign (hA47.get rfl)) fun a48 hA48 _ => ?_)
    refine sq_end ?_
    have hA49 := hA48.keep [(1, Sl.v l_2), (2, behind_3), (9, .pointer r_0_18), (24, .bool (decide (1500 < (l_2.n : Int))))] ⟨rfl, rfl, rfl, rfl, trivial⟩
    refine then_normal ?_
    refine wp_cond_split (hA49.get rfl) (fun hc => ?_) (fun hc => ?_)
    · have ht50 := ht39.1 (of_decide_eq_true hc)
      clear hc
      refine wp_seq ?_
      refine wp_region_lit ?_
      refine sq (opk_val hA49 rfl (r_assign rfl) fun a52 hA52 _ => ?_)
      refine sq (opk_val hA52 rfl (r_assign rfl) fun a53 hA53 _ => ?_)
      refine sq (opk_val hA53 rfl (r_assign rfl) fun a54 hA54 _ => ?_)
      refine sq_end ?_
      have hA55 := hA54.keep [(6, .pointer none), (7, .int .i64 0), (8, .int .i64 2)] ⟨rfl, rfl, rfl, trivial⟩
      refine then_normal ?_
      refine wp_ret ?_
      refine block_ret ?_
      refine then_ret ?_
      exact res_all (vs := [.pointer none, .int .i64 0, .int .i64 2]) rfl hA55 ⟨res_of_tmp hA55 rfl, res_of_tmp hA55 rfl, res_of_tmp hA55 rfl, trivial⟩ ht50
    · have ht51 := ht39.2 (of_decide_eq_false hc)
      clear hc
      refine wp_skip ?_
      refine block_normal ?_
      refine then_normal ?_
      refine wp_seq ?_
      refine wp_region_lit ?_
      refine sq (opk_call hA49 rfl (r_call (args := #[]) Try.func84 (by decide) rfl (map_arr ml_nil) rfl) ht51 fun a57 v63 w58 hA57 _ hn60 hz61 hK62 => ?_)
      obtain ⟨rfl, ht59⟩ := hK62
      refine sq (opk_new (fun B => .pointer (some ⟨B, 0, none⟩)) hA57 rfl (r_alloc (cs := [.nilFunc, .nilFunc, .nilFunc, .nilFunc, .nilFunc, .nilFunc, .nilFunc, .nilFunc, .nilFunc, .nilFunc, .nilFunc, .nilFunc, .nilFunc, .nilFunc]) ti_114 rfl) fun a66 w65 B_64 hE67 hN68 hB69 hA66 _ => ?_)
      have hN70 : New w58 B_64 w65 := hN68
      have hC71 : Chg [] w58 w65 := hE67
      refine sq (opk_store hA66 hB69 (r_store (vs := [.nilFunc, .nilFunc, .func (.func 93) #[] #[], .func (.func 94) #[] #[], .func (.func 95) #[] #[], .func (.func 96) #[] #[], .func (.func 97) #[] #[], .func (.func 98) #[] #[], .func (.func 99) #[] #[], .func (.func 100) #[] #[], .func (.func 101) #[] #[], .func (.func 102) #[] #[], .func (.func 103) #[] #[], .func (.func 104) #[] #[]]) (hA66.get rfl) (hA66.get rfl) rfl ti_114 hB69 rfl (ones_all [.nilFunc, .nilFunc, .func (.func 93) #[] #[], .func (.func 94) #[] #[], .func (.func 95) #[] #[], .func (.func 96) #[] #[], .func (.func 97) #[] #[], .func (.func 98) #[] #[], .func (.func 99) #[] #[], .func (.func 100) #[] #[], .func (.func 101) #[] #[], .func (.func 102) #[] #[], .func (.func 103) #[] #[], .func (.func 104) #[] #[]] rfl)) fun a73 w72 hS74 hB75 hA73 => ?_)
      have hB76 : Box w72 B_64 114 [.nilFunc, .nilFunc, .func (.func 93) #[] #[], .func (.func 94) #[] #[], .func (.func 95) #[] #[], .func (.func 96) #[] #[], .func (.func 97) #[] #[], .func (.func 98) #[] #[], .func (.func 99) #[] #[], .func (.func 100) #[] #[], .func (.func 101) #[] #[], .func (.func 102) #[] #[], .func (.func 103) #[] #[], .func (.func 104) #[] #[]] := hB75
      have hC77 := hC71.storeNew hN70 hS74
      have hN78 := hN70.up hS74.size
      refine sq_end ?_
      have hA79 := hA73.keep [(1, Sl.v l_2), (2, behind_3), (9, .pointer r_0_18), (11, .pointer (some (⟨B_64, 0, none⟩ : Addr)))] ⟨rfl, rfl, rfl, rfl, trivial⟩
      refine then_normal ?_
      refine wp_seq ?_
      refine wp_seq ?_
      refine wp_region_lit ?_
      refine sq (opk_val hA79 rfl (r_move (hA79.get rfl)) fun a80 hA80 _ => ?_)
      refine sq (opk_val hA80 rfl (r_len (hA80.get rfl) Try.underlying46) fun a81 hA81 _ => ?_)
      refine sq (opk_val hA81 rfl (r_move rfl) fun a82 hA82 _ => ?_)
      refine sq_end ?_
      have hA83 := hA82.keep [(1, Sl.v l_2), (2, behind_3), (9, .pointer r_0_18), (11, .pointer (some (⟨B_64, 0, none⟩ : Addr))), (29, Sl.v l_2), (30, .int .i64 (l_2.n : Int)), (31, .int .i64 0)] ⟨rfl, rfl, rfl, rfl, rfl, rfl, rfl, trivial⟩
      refine then_normal ?_
      refine wp_block ?_
      have ht226 := ht59 w72 B_64 hN78  hC77
      obtain ⟨J_86, mu_87, h0230, ht229⟩ := ht226
      refine wp_loop_st (σ := Int × World) (fun s a w => Ag 59 a [(1, Sl.v l_2), (2, behind_3), (9, .pointer r_0_18), (11, .pointer (some (⟨B_64, 0, none⟩ : Addr))), (29, Sl.v l_2), (30, .int .i64 (l_2.n : Int)), (31, .int .i64 s.1)] ∧ Box w B_64 114 [.nilFunc, .nilFunc, .func (.func 93) #[] #[], .func (.func 94) #[] #[], .func (.func 95) #[] #[], .func (.func 96) #[] #[], .func (.func 97) #[] #[], .func (.func 98) #[] #[], .func (.func 99) #[] #[], .func (.func 100) #[] #[], .func (.func 101) #[] #[], .func (.func 102) #[] #[], .func (.func 103) #[] #[], .func (.func 104) #[] #[]] ∧ w = s.2 ∧ J_86 s.1 s.2) (fun s => mu_87 s.1 s.2) (0, w72) ⟨hA83.keep [(1, Sl.v l_2), (2, behind_3), (9, .pointer r_0_18), (11, .pointer (some (⟨B_64, 0, none⟩ : Addr))), (29, Sl.v l_2), (30, .int .i64 (l_2.n : Int)), (31, .int .i64 0)] ⟨rfl, rfl, rfl, rfl, rfl, rfl, rfl, trivial⟩, hB76, rfl, h0230⟩ ?_
      rintro ⟨x_84, w85⟩ a227 w_ ⟨hA227, hB228, hw_, hJ232⟩
      have hw_ : w85 = w_ := hw_.symm
      subst hw_
      have ht231 := ht229 x_84 _ hJ232
      refine wp_seq ?_
      refine wp_region_lit ?_
      refine sq (opk_val hA227 rfl (r_lss (hA227.get rfl) (hA227.get rfl)) fun a233 hA233 _ => ?_)
      refine sq_end ?_
      have hA234 := hA233.keep [(1, Sl.v l_2), (2, behind_3), (9, .pointer r_0_18), (11, .pointer (some (⟨B_64, 0, none⟩ : Addr))), (29, Sl.v l_2), (30, .int .i64 (l_2.n : Int)), (31, .int .i64 x_84), (32, .bool (decide (x_84 < (l_2.n : Int))))] ⟨rfl, rfl, rfl, rfl, rfl, rfl, rfl, rfl, trivial⟩
      refine then_normal ?_
      refine wp_seq ?_
      refine wp_cond_split (hA234.get rfl) (fun hc => ?_) (fun hc => ?_)
      · have ht235 := ht231.1 (of_decide_eq_true hc)
        clear hc
        refine wp_skip ?_
        refine then_normal ?_
        refine wp_seq ?_
        refine wp_block ?_
        refine wp_seq ?_
        refine wp_region_lit ?_
        refine sq (opk_val hA234 rfl (r_move (hA234.get rfl)) fun a237 hA237 _ => ?_)
        obtain ⟨hb239, p_238, hp240, ht241⟩ := ht235
        refine sq (opk_val hA237 rfl (r_indexAddr (hA237.get rfl) (hA237.get rfl) Try.underlying46 ti_48 hb239 hp240) fun a242 hA242 _ => ?_)
        obtain ⟨x_244_Kind, x_244_ID, x_244_Parent, x_244_At, x_244_What, x_244_Name, x_244_Text, hx245, ht246⟩ := ht241
        refine sq (opk_val hA242 rfl (r_loadN Try.underlying48 rfl ti_48 (hA242.get rfl) hx245) fun a243 hA243 _ => ?_)
        refine sq (opk_new (fun B => .pointer (some ⟨B, 0, none⟩)) hA243 rfl (r_alloc (cs := [.int .i64 0, .int .i64 0, .int .i64 0, .int .i64 0, .int .i64 0, .string (Bs ([] : Str)), .string (Bs ([] : Str))]) ti_48 rfl) fun a249 w248 B_247 hE250 hN251 hB252 hA249 _ => ?_)
        have hne253 : B_64 ≠ B_247 := Nat.ne_of_lt (Nat.lt_of_lt_of_le hB228.lt hN251.ge)
        have hN254 : New w85 B_247 w248 := hN251
        have hB255 := hB228.ext hE250
        have hC256 : Chg [] w85 w248 := hE250
        refine sq (opk_val hA249 rfl (r_assign (hA249.get rfl)) fun a257 hA257 _ => ?_)
        refine sq (opk_store hA257 hB252 (r_store (vs := [.int .i64 x_244_Kind, .int .i64 x_244_ID, .int .i64 x_244_Parent, .int .i64 x_244_At, .int .i64 x_244_What, .string (Bs x_244_Name), .string (Bs x_244_Text)]) (hA257.get rfl) (hA257.get rfl) rfl ti_48 hB252 rfl (ones_all [.int .i64 x_244_Kind, .int .i64 x_244_ID, .int .i64 x_244_Parent, .int .i64 x_244_At, .int .i64 x_244_What, .string (Bs x_244_Name), .string (Bs x_244_Text)] rfl)) fun a259 w258 hS260 hB261 hA259 => ?_)
        have hB262 : Box w258 B_247 48 [.int .i64 x_244_Kind, .int .i64 x_244_ID, .int .i64 x_244_Parent, .int .i64 x_244_At, .int .i64 x_244_What, .string (Bs x_244_Name), .string (Bs x_244_Text)] := hB261
        have hB263 := hB255.keep hS260 (by simpa using hne253)
        have hC264 := hC256.storeNew hN254 hS260
        have hN265 := hN254.up hS260.size
        refine sq_end ?_
        have hA266 := hA259.keep [(1, Sl.v l_2), (2, behind_3), (9, .pointer r_0_18), (11, .pointer (some (⟨B_64, 0, none⟩ : Addr))), (12, .int .i64 x_84), (13, .pointer (some (⟨B_247, 0, none⟩ : Addr))), (29, Sl.v l_2), (30, .int .i64 (l_2.n : Int)), (31, .int .i64 x_84)] ⟨rfl, rfl, rfl, rfl, rfl, rfl, rfl, rfl, rfl, trivial⟩
        refine then_normal ?_
        refine wp_seq ?_
        refine wp_seq ?_
        refine wp_region_lit ?_
        refine sq (opk_val hA266 rfl (r_loadN (cs := [.int .i64 x_244_Kind, .int .i64 x_244_ID, .int .i64 x_244_Parent, .int .i64 x_244_At, .int .i64 x_244_What, .string (Bs x_244_Name), .string (Bs x_244_Text)]) Try.underlying48 rfl ti_48 (hA266.get rfl) (hB262.part 0 _ rfl)) fun a267 hA267 _ => ?_)
        have ht268 := ht246 w258 B_247 hN265  hC264
        refine sq (opk_call hA267 rfl (r_call (args := #[.agg #[.int .i64 x_244_Kind, .int .i64 x_244_ID, .int .i64 x_244_Parent, .int .i64 x_244_At, .int .i64 x_244_What, .string (Bs x_244_Name), .string (Bs x_244_Text)]]) Try.func65 (by decide) rfl (map_arr (ml_cons (hA267.get rfl) ml_nil)) rfl) ht268 fun a270 v276 w271 hA270 _ hn273 hz274 hK275 => ?_)
        obtain ⟨r_269, rfl, ht272⟩ := hK275
        have hB277 := hB263.kept hn273 (.head _)
        have hB278 := hB262.kept hn273 (.tail _ (.head _))
        refine sq (opk_val hA270 rfl (r_not (hA270.get rfl)) fun a279 hA279 _ => ?_)
        refine sq_end ?_
        have hA280 := hA279.keep [(1, Sl.v l_2), (2, behind_3), (9, .pointer r_0_18), (11, .pointer (some (⟨B_64, 0, none⟩ : Addr))), (12, .int .i64 x_84), (13, .pointer (some (⟨B_247, 0, none⟩ : Addr))), (29, Sl.v l_2), (30, .int .i64 (l_2.n : Int)), (31, .int .i64 x_84), (38, .bool (!r_269))] ⟨rfl, rfl, rfl, rfl, rfl, rfl, rfl, rfl, rfl, rfl, trivial⟩
        refine then_normal ?_
        refine wp_cond_split (hA280.get rfl) (fun hc => ?_) (fun hc => ?_)
        · have ht281 := ht272.1 (b_not_t hc)
          clear hc
          refine wp_seq ?_
          refine wp_region_lit ?_
          refine sq (opk_val hA280 rfl (r_move (hA280.get rfl)) fun a283 hA283 _ => ?_)
          refine sq (opk_val hA283 rfl (r_assign rfl) fun a284 hA284 _ => ?_)
          refine sq (opk_val hA284 rfl (r_assign (hA284.get rfl)) fun a285 hA285 _ => ?_)
          refine sq (opk_val hA285 rfl (r_assign rfl) fun a286 hA286 _ => ?_)
          refine sq_end ?_
          have hA287 := hA286.keep [(6, .pointer none), (7, .int .i64 x_84), (8, .int .i64 15)] ⟨rfl, rfl, rfl, trivial⟩
          refine then_normal ?_
          refine wp_ret ?_
          refine then_ret ?_
          refine block_ret ?_
          refine then_ret ?_
          refine then_ret ?_
          refine block_ret ?_
          refine then_ret ?_
          exact res_all (vs := [.pointer none, .int .i64 x_84, .int .i64 15]) rfl hA287 ⟨res_of_tmp hA287 rfl, res_of_tmp hA287 rfl, res_of_tmp hA287 rfl, trivial⟩ ht281
        · have ht282 := ht272.2 (b_not_f hc)
          clear hc
          refine wp_skip ?_
          refine then_normal ?_
          refine wp_seq ?_
          refine wp_seq ?_
          refine draw' (by kernel_rfl) fun w288 hE289 => ?_
          have hB290 := hB277.ext hE289
          have hB291 := hB278.ext hE289
          have hC292 : Chg [] w271 w288 := hE289
          have ht293 := ht282 w288    hC292
          obtain ⟨hS296, ht297⟩ := ht293
          refine par (D := [[], [0], [0, 1], [0, 1, 2], [0, 1, 2, 3], [], [], [0, 1, 2, 3, 4, 5, 6], [0, 1, 2, 3, 4, 5, 6, 7]]) (S := [0, 1, 2, 3, 4, 5, 6]) (F := []) (V := VL [(0, fun v _ => v = .pointer (some (⟨B_247, 0, none⟩ : Addr))), (1, fun v _ => v = .int .i64 x_244_Kind), (2, fun v _ => v = .pointer (some ((⟨B_64, 0, none⟩ : Addr).add (x_244_Kind.toNat * 2)))), (3, fun v _ => v = .pointer (some (((⟨B_64, 0, none⟩ : Addr).add (x_244_Kind.toNat * 2)).add 0))), (4, fun v _ => v = (([.nilFunc, .nilFunc, .func (.func 93) #[] #[], .func (.func 94) #[] #[], .func (.func 95) #[] #[], .func (.func 96) #[] #[], .func (.func 97) #[] #[], .func (.func 98) #[] #[], .func (.func 99) #[] #[], .func (.func 100) #[] #[], .func (.func 101) #[] #[], .func (.func 102) #[] #[], .func (.func 103) #[] #[], .func (.func 104) #[] #[]] : List Value).getD (x_244_Kind.toNat * 2 + 0) .nilFunc)), (5, fun v _ => v = .pointer r_0_18), (6, fun v _ => v = .agg #[.int .i64 x_244_Kind, .int .i64 x_244_ID, .int .i64 x_244_Parent, .int .i64 x_244_At, .int .i64 x_244_What, .string (Bs x_244_Name), .string (Bs x_244_Text)])]) hA280 (by kernel_rfl) ⟨fun _ _ _ _ h => by first | exact h | (change _ = _ at h; change _ = _; exact h), fun _ _ _ _ h => by first | exact h | (change _ = _ at h; change _ = _; exact h), fun _ _ _ _ h => by first | exact h | (change _ = _ at h; change _ = _; exact h), fun _ _ _ _ h => by first | exact h | (change _ = _ at h; change _ = _; exact h), fun _ _ _ _ h => by first | exact h | (change _ = _ at h; change _ = _; exact h), fun _ _ _ _ h => by first | exact h | (change _ = _ at h; change _ = _; exact h), fun _ _ _ _ h => by first | exact h | (change _ = _ at h; change _ = _; exact h), trivial⟩ ⟨?_, ?_, ?_, ?_, ?_, ?_, ?_, trivial⟩ ?_
          · intro a w hT
            have hAp := hT.ag hA280 [(13, .pointer (some (⟨B_247, 0, none⟩ : Addr)))] ⟨rfl, trivial⟩ (by kernel_rfl)
            exact opk_val hAp rfl (r_fieldAddr (hAp.get rfl) Try.underlying48 rfl ti_3 (by decide)) fun _ _ e => ⟨_, e, Chg.refl _ _, fun _ => Eq.refl _⟩
          · intro a w hT
            have hAp := hT.ag hA280 [] trivial (by kernel_rfl)
            have e294 : a.tmps.getD 40 undef = .pointer (some (⟨B_247, 0, none⟩ : Addr)) := hT.vals 0 rfl 40 rfl
            have hAp := hAp.add e294
            exact opk_val hAp rfl (r_load1 Try.underlying3 rfl (hAp.get rfl) ((hB291.ext hT.chg).cell 0 _ rfl)) fun _ _ e => ⟨_, e, Chg.refl _ _, fun _ => Eq.refl _⟩
          · intro a w hT
            have hAp := hT.ag hA280 [(11, .pointer (some (⟨B_64, 0, none⟩ : Addr)))] ⟨rfl, trivial⟩ (by kernel_rfl)
            have e295 : a.tmps.getD 41 undef = .int .i64 x_244_Kind := hT.vals 1 rfl 41 rfl
            have hAp := hAp.add e295
            exact opk_val hAp rfl (r_indexAddrA (hAp.get rfl) (hAp.get rfl) Try.underlying114 ti_113 hS296) fun _ _ e => ⟨_, e, Chg.refl _ _, fun _ => Eq.refl _⟩
          · intro a w hT
            have hAp := hT.ag hA280 [] trivial (by kernel_rfl)
            have e298 : a.tmps.getD 42 undef = .pointer (some ((⟨B_64, 0, none⟩ : Addr).add (x_244_Kind.toNat * 2))) := hT.vals 2 rfl 42 rfl
            have hAp := hAp.add e298
            exact opk_val hAp rfl (r_fieldAddr (hAp.get rfl) Try.underlying113 rfl ti_110 (by decide)) fun _ _ e => ⟨_, e, Chg.refl _ _, fun _ => Eq.refl _⟩
          · intro a w hT
            have hAp := hT.ag hA280 [] trivial (by kernel_rfl)
            have e299 : a.tmps.getD 43 undef = .pointer (some (((⟨B_64, 0, none⟩ : Addr).add (x_244_Kind.toNat * 2)).add 0)) := hT.vals 3 rfl 43 rfl
            have hAp := hAp.add e299
            exact opk_val hAp rfl (r_load1 Try.underlying110 rfl (hAp.get rfl) (Box.cellAt (hB290.ext hT.chg) rfl hS296 (by decide))) fun _ _ e => ⟨_, e, Chg.refl _ _, fun _ => Eq.refl _⟩
          · intro a w hT
            have hAp := hT.ag hA280 [(9, .pointer r_0_18)] ⟨rfl, trivial⟩ (by kernel_rfl)
            exact opk_val hAp rfl (r_move (hAp.get rfl)) fun _ _ e => ⟨_, e, Chg.refl _ _, fun _ => Eq.refl _⟩
          · intro a w hT
            have hAp := hT.ag hA280 [(13, .pointer (some (⟨B_247, 0, none⟩ : Addr)))] ⟨rfl, trivial⟩ (by kernel_rfl)
            exact opk_val hAp rfl (r_loadN (cs := [.int .i64 x_244_Kind, .int .i64 x_244_ID, .int .i64 x_244_Parent, .int .i64 x_244_At, .int .i64 x_244_What, .string (Bs x_244_Name), .string (Bs x_244_Text)]) Try.underlying48 rfl ti_48 (hAp.get rfl) ((hB291.ext hT.chg).part 0 _ rfl)) fun _ _ e => ⟨_, e, Chg.refl _ _, fun _ => Eq.refl _⟩
          · intro a300 w301 hE302 hag303 hv304
            have hA300 := hag303 [(1, Sl.v l_2), (2, behind_3), (9, .pointer r_0_18), (11, .pointer (some (⟨B_64, 0, none⟩ : Addr))), (12, .int .i64 x_84), (29, Sl.v l_2), (30, .int .i64 (l_2.n : Int)), (31, .int .i64 x_84)] ⟨rfl, rfl, rfl, rfl, rfl, rfl, rfl, rfl, trivial⟩ (by kernel_rfl)
            have e306 : a300.tmps.getD 44 undef = (([.nilFunc, .nilFunc, .func (.func 93) #[] #[], .func (.func 94) #[] #[], .func (.func 95) #[] #[], .func (.func 96) #[] #[], .func (.func 97) #[] #[], .func (.func 98) #[] #[], .func (.func 99) #[] #[], .func (.func 100) #[] #[], .func (.func 101) #[] #[], .func (.func 102) #[] #[], .func (.func 103) #[] #[], .func (.func 104) #[] #[]] : List Value).getD (x_244_Kind.toNat * 2 + 0) .nilFunc) := hv304 4 rfl 44 rfl
            have hA307 := hA300.add e306
            have e308 : a300.tmps.getD 45 undef = .pointer r_0_18 := hv304 5 rfl 45 rfl
            have hA309 := hA307.add e308
            have e310 : a300.tmps.getD 46 undef = .agg #[.int .i64 x_244_Kind, .int .i64 x_244_ID, .int .i64 x_244_Parent, .int .i64 x_244_At, .int .i64 x_244_What, .string (Bs x_244_Name), .string (Bs x_244_Text)] := hv304 6 rfl 46 rfl
            have hA311 := hA309.add e310
            have hB312 := hB290.ext hE302
            have hB313 := hB291.ext hE302
            have hC314 : Chg [] w288 w301 := hE302
            obtain ⟨f_315, fst_316, cap_317, hp318, ht319⟩ := ht297
            have ht320 := ht319 w301    hC314
            obtain ⟨hb325, ht326⟩ := ht320
            refine one (D := [[], [0], [0, 1], [0, 1, 2], [0, 1, 2, 3], [], [], [0, 1, 2, 3, 4, 5, 6], [0, 1, 2, 3, 4, 5, 6, 7]]) (i := 7) rfl (by kernel_rfl) (opk_call hA311 rfl (r_callO (args := #[.pointer r_0_18, .agg #[.int .i64 x_244_Kind, .int .i64 x_244_ID, .int .i64 x_244_Parent, .int .i64 x_244_At, .int .i64 x_244_What, .string (Bs x_244_Name), .string (Bs x_244_Text)]]) hb325 (map_arr (ml_cons (hA311.get rfl) (ml_cons (hA311.get rfl) ml_nil))) (((hA311.get rfl)).trans hp318)) ht326 fun a322 v330 w323 hA322 _ hn327 hz328 hK329 => ?_)
            obtain ⟨r_321, rfl, ht324⟩ := hK329
            have hB331 := hB312.kept hn327 (.head _)
            have hB332 := hB313.kept hn327 (.tail _ (.head _))
            refine one (D := [[], [0], [0, 1], [0, 1, 2], [0, 1, 2, 3], [], [], [0, 1, 2, 3, 4, 5, 6], [0, 1, 2, 3, 4, 5, 6, 7]]) (i := 8) rfl (by kernel_rfl) (opk_val hA322 rfl (r_assign (hA322.get rfl)) fun a333 hA333 _ => ?_)
            refine PR_end (by kernel_rfl) ?_
            have hA334 := hA333.keep [(1, Sl.v l_2), (2, behind_3), (9, .pointer r_0_18), (11, .pointer (some (⟨B_64, 0, none⟩ : Addr))), (12, .int .i64 x_84), (14, .int .i64 r_321), (29, Sl.v l_2), (30, .int .i64 (l_2.n : Int)), (31, .int .i64 x_84)] ⟨rfl, rfl, rfl, rfl, rfl, rfl, rfl, rfl, rfl, trivial⟩
            refine then_normal ?_
            refine wp_seq ?_
            refine wp_region_lit ?_
            refine sq (opk_val hA334 rfl (r_move (hA334.get rfl)) fun a335 hA335 _ => ?_)
            refine sq (opk_val hA335 rfl (r_neq (hA335.get rfl) rfl) fun a336 hA336 _ => ?_)
            refine sq_end ?_
            have hA337 := hA336.keep [(1, Sl.v l_2), (2, behind_3), (9, .pointer r_0_18), (11, .pointer (some (⟨B_64, 0, none⟩ : Addr))), (12, .int .i64 x_84), (14, .int .i64 r_321), (29, Sl.v l_2), (30, .int .i64 (l_2.n : Int)), (31, .int .i64 x_84), (49, .bool (decide (r_321 ≠ 0)))] ⟨rfl, rfl, rfl, rfl, rfl, rfl, rfl, rfl, rfl, rfl, trivial⟩
            refine then_normal ?_
            refine wp_cond_split (hA337.get rfl) (fun hc => ?_) (fun hc => ?_)
            · have ht338 := ht324.1 (of_decide_eq_true hc)
              clear hc
              refine wp_seq ?_
              refine wp_region_lit ?_
              refine sq (opk_val hA337 rfl (r_move (hA337.get rfl)) fun a340 hA340 _ => ?_)
              refine sq (opk_val hA340 rfl (r_move (hA340.get rfl)) fun a341 hA341 _ => ?_)
              refine sq (opk_val hA341 rfl (r_assign rfl) fun a342 hA342 _ => ?_)
              refine sq (opk_val hA342 rfl (r_assign (hA342.get rfl)) fun a343 hA343 _ => ?_)
              refine sq (opk_val hA343 rfl (r_assign (hA343.get rfl)) fun a344 hA344 _ => ?_)
              refine sq_end ?_
              have hA345 := hA344.keep [(6, .pointer none), (7, .int .i64 x_84), (8, .int .i64 r_321)] ⟨rfl, rfl, rfl, trivial⟩
              refine then_normal ?_
              refine wp_ret ?_
              refine then_ret ?_
              refine block_ret ?_
              refine then_ret ?_
              refine then_ret ?_
              refine block_ret ?_
              refine then_ret ?_
              exact res_all (vs := [.pointer none, .int .i64 x_84, .int .i64 r_321]) rfl hA345 ⟨res_of_tmp hA345 rfl, res_of_tmp hA345 rfl, res_of_tmp hA345 rfl, trivial⟩ ht338
            · have ht339 := ht324.2 (of_decide_eq_false hc)
              clear hc
              refine wp_skip ?_
              refine then_normal ?_
              refine wp_region_lit ?_
              refine sq (opk_val hA337 rfl (r_move (hA337.get rfl)) fun a346 hA346 _ => ?_)
              refine sq (opk_val hA346 rfl (r_move (hA346.get rfl)) fun a347 hA347 _ => ?_)
              obtain ⟨f_348, fst_349, cap_350, hp351, ht352⟩ := ht339
              obtain ⟨hb356, ht357⟩ := ht352
              refine sq (opk_call hA347 rfl (r_callO (args := #[.pointer r_0_18]) hb356 (map_arr (ml_cons (hA347.get rfl) ml_nil)) (((hA347.get rfl)).trans hp351)) ht357 fun a353 v361 w354 hA353 _ hn358 hz359 hK360 => ?_)
              obtain ⟨rfl, ht355⟩ := hK360
              have hB362 := hB331.kept hn358 (.head _)
              refine sq_end ?_
              have hA363 := hA353.keep [(1, Sl.v l_2), (2, behind_3), (9, .pointer r_0_18), (11, .pointer (some (⟨B_64, 0, none⟩ : Addr))), (29, Sl.v l_2), (30, .int .i64 (l_2.n : Int)), (31, .int .i64 x_84)] ⟨rfl, rfl, rfl, rfl, rfl, rfl, rfl, trivial⟩
              refine block_normal ?_
              refine then_normal ?_
              refine wp_region_lit ?_
              obtain ⟨hS365, ht366⟩ := ht355
              refine sq (opk_val hA363 rfl (r_addI (hA363.get rfl) rfl hS365) fun a364 hA364 _ => ?_)
              refine sq (opk_val hA364 rfl (r_move (hA364.get rfl)) fun a367 hA367 _ => ?_)
              refine sq_end ?_
              have hA368 := hA367.keep [(1, Sl.v l_2), (2, behind_3), (9, .pointer r_0_18), (11, .pointer (some (⟨B_64, 0, none⟩ : Addr))), (29, Sl.v l_2), (30, .int .i64 (l_2.n : Int)), (31, .int .i64 (x_84 + 1))] ⟨rfl, rfl, rfl, rfl, rfl, rfl, rfl, trivial⟩
              have hA369 := hA368.keep [(1, Sl.v l_2), (2, behind_3), (9, .pointer r_0_18), (11, .pointer (some (⟨B_64, 0, none⟩ : Addr))), (29, Sl.v l_2), (30, .int .i64 (l_2.n : Int)), (31, .int .i64 (x_84 + 1))] ⟨rfl, rfl, rfl, rfl, rfl, rfl, rfl, trivial⟩
              exact then_normal ⟨(x_84 + 1, w354), ⟨hA369, hB362, rfl, ht366.1⟩, ht366.2⟩
      · have ht236 := ht231.2 (of_decide_eq_false hc)
        clear hc
        refine wp_exit ?_
        refine then_exit ?_
        refine then_exit ?_
        refine block_hit ?_
        have hA370 := hA234.keep [(1, Sl.v l_2), (9, .pointer r_0_18)] ⟨rfl, rfl, trivial⟩
        refine then_normal ?_
        refine wp_seq ?_
        refine wp_region_lit ?_
        refine sq (opk_val hA370 rfl (r_move (hA370.get rfl)) fun a371 hA371 _ => ?_)
        refine sq (opk_val hA371 rfl (r_move (hA371.get rfl)) fun a372 hA372 _ => ?_)
        refine sq (opk_val hA372 rfl (r_len (hA372.get rfl) Try.underlying46) fun a373 hA373 _ => ?_)
        refine sq (opk_val hA373 rfl (r_assign (hA373.get rfl)) fun a374 hA374 _ => ?_)
        refine sq (opk_val hA374 rfl (r_assign (hA374.get rfl)) fun a375 hA375 _ => ?_)
        refine sq (opk_val hA375 rfl (r_assign rfl) fun a376 hA376 _ => ?_)
        refine sq_end ?_
        have hA377 := hA376.keep [(6, .pointer r_0_18), (7, .int .i64 (l_2.n : Int)), (8, .int .i64 0)] ⟨rfl, rfl, rfl, trivial⟩
        refine then_normal ?_
        refine wp_ret ?_
        exact res_all (vs := [.pointer r_0_18, .int .i64 (l_2.n : Int), .int .i64 0]) rfl hA377 ⟨res_of_tmp hA377 rfl, res_of_tmp hA377 rfl, res_of_tmp hA377 rfl, trivial⟩ ht236

/-- The condition of topiary/apply.Apply.1. -/
def apply_Apply_1.vc (x_1 : Addr) (R : Value → World → Prop) (w : World) : Prop :=
R (.tuple #[]) w
set_option maxHeartbeats 1000000 in
set_option maxRecDepth 10000 in
theorem apply_Apply_1.ok (x_1 : Addr) {R : Value → World → Prop} {w : World} (ht0 : apply_Apply_1.vc x_1 R w) : Calls Try.prog 67 #[.pointer (some x_1)] w (Ret R) := by
  refine enter [.pointer (some x_1)] Try.func67 rfl Try.ntmps67 rfl ?_
  intro a0 hA0
  unfold apply_Apply_1.vc at ht0
  refine wp_skip ?_
  refine res_end ?_
  exact res_all (vs := []) rfl hA0 trivial ht0

/-- The condition of topiary/apply.calls. -/
def apply_calls.vc  (R : Value → World → Prop) (w : World) : Prop :=
∀ (w17 : World) (B_1 : Nat), New w B_1 w17 → Chg [] w w17 →
R (.agg #[.nilFunc, .nilFunc, .func (.func 93) #[] #[], .func (.func 94) #[] #[], .func (.func 95) #[] #[], .func (.func 96) #[] #[], .func (.func 97) #[] #[], .func (.func 98) #[] #[], .func (.func 99) #[] #[], .func (.func 100) #[] #[], .func (.func 101) #[] #[], .func (.func 102) #[] #[], .func (.func 103) #[] #[], .func (.func 104) #[] #[]]) w17
set_option maxHeartbeats 1000000 in
set_option maxRecDepth 10000 in
theorem apply_calls.ok  {R : Value → World → Prop} {w : World} (ht0 : apply_calls.vc  R w) : Calls Try.prog 84 #[] w (Ret R) := by
  refine enter [] Try.func84 rfl Try.ntmps84 rfl ?_
  intro a0 hA0
  unfold apply_calls.vc at ht0
  refine wp_seq ?_
  refine wp_region_lit ?_
  refine sq (opk_new (fun B => .pointer (some ⟨B, 0, none⟩)) hA0 rfl (r_alloc (cs := [.nilFunc, .nilFunc, .nilFunc, .nilFunc, .nilFunc, .nilFunc, .nilFunc, .nilFunc, .nilFunc, .nilFunc, .nilFunc, .nilFunc, .nilFunc, .nilFunc]) ti_114 rfl) fun a3 w2 B_1 hE4 hN5 hB6 hA3 _ => ?_)
  have hN7 : New w B_1 w2 := hN5
  have hC8 : Chg [] w w2 := hE4
  refine sq_end ?_
  have hA9 := hA3.keep [(0, .pointer (some (⟨B_1, 0, none⟩ : Addr)))] ⟨rfl, trivial⟩
  refine then_normal ?_
  refine wp_seq ?_
  refine wp_region_lit ?_
  refine sq (opk_val hA9 rfl (r_build (vs := #[(0, .func (.func 93) #[] #[]), (1, .func (.func 94) #[] #[])]) (cells := #[.func (.func 93) #[] #[], .func (.func 94) #[] #[]]) (map_arr2 (ml2_cons rfl (ml2_cons rfl (ml2_nil)))) ti_113 Try.underlying113 pl_113 (by kernel_rfl)) fun a10 hA10 _ => ?_)
  refine sq (opk_val hA10 rfl (r_build (vs := #[(0, .func (.func 95) #[] #[]), (1, .func (.func 96) #[] #[])]) (cells := #[.func (.func 95) #[] #[], .func (.func 96) #[] #[]]) (map_arr2 (ml2_cons rfl (ml2_cons rfl (ml2_nil)))) ti_113 Try.underlying113 pl_113 (by kernel_rfl)) fun a11 hA11 _ => ?_)
  refine sq (opk_val hA11 rfl (r_build (vs := #[(0, .func (.func 97) #[] #[]), (1, .func (.func 98) #[] #[])]) (cells := #[.func (.func 97) #[] #[], .func (.func 98) #[] #[]]) (map_arr2 (ml2_cons rfl (ml2_cons rfl (ml2_nil)))) ti_113 Try.underlying113 pl_113 (by kernel_rfl)) fun a12 hA12 _ => ?_)
  refine sq (opk_val hA12 rfl (r_build (vs := #[(0, .func (.func 99) #[] #[]), (1, .func (.func 100) #[] #[])]) (cells := #[.func (.func 99) #[] #[], .func (.func 100) #[] #[]]) (map_arr2 (ml2_cons rfl (ml2_cons rfl (ml2_nil)))) ti_113 Try.underlying113 pl_113 (by kernel_rfl)) fun a13 hA13 _ => ?_)
  refine sq (opk_val hA13 rfl (r_build (vs := #[(0, .func (.func 101) #[] #[]), (1, .func (.func 102) #[] #[])]) (cells := #[.func (.func 101) #[] #[], .func (.func 102) #[] #[]]) (map_arr2 (ml2_cons rfl (ml2_cons rfl (ml2_nil)))) ti_113 Try.underlying113 pl_113 (by kernel_rfl)) fun a14 hA14 _ => ?_)
  refine sq (opk_val hA14 rfl (r_build (vs := #[(0, .func (.func 103) #[] #[]), (1, .func (.func 104) #[] #[])]) (cells := #[.func (.func 103) #[] #[], .func (.func 104) #[] #[]]) (map_arr2 (ml2_cons rfl (ml2_cons rfl (ml2_nil)))) ti_113 Try.underlying113 pl_113 (by kernel_rfl)) fun a15 hA15 _ => ?_)
  refine sq (opk_val hA15 rfl (r_buildA (vs := #[(1, .agg #[.func (.func 93) #[] #[], .func (.func 94) #[] #[]]), (2, .agg #[.func (.func 95) #[] #[], .func (.func 96) #[] #[]]), (3, .agg #[.func (.func 97) #[] #[], .func (.func 98) #[] #[]]), (4, .agg #[.func (.func 99) #[] #[], .func (.func 100) #[] #[]]), (5, .agg #[.func (.func 101) #[] #[], .func (.func 102) #[] #[]]), (6, .agg #[.func (.func 103) #[] #[], .func (.func 104) #[] #[]])]) (cells := #[.nilFunc, .nilFunc, .func (.func 93) #[] #[], .func (.func 94) #[] #[], .func (.func 95) #[] #[], .func (.func 96) #[] #[], .func (.func 97) #[] #[], .func (.func 98) #[] #[], .func (.func 99) #[] #[], .func (.func 100) #[] #[], .func (.func 101) #[] #[], .func (.func 102) #[] #[], .func (.func 103) #[] #[], .func (.func 104) #[] #[]]) (map_arr2 (ml2_cons (hA15.get rfl) (ml2_cons (hA15.get rfl) (ml2_cons (hA15.get rfl) (ml2_cons (hA15.get rfl) (ml2_cons (hA15.get rfl) (ml2_cons (hA15.get rfl) (ml2_nil)))))))) ti_114 Try.underlying114 ti_113 (by kernel_rfl)) fun a16 hA16 _ => ?_)
  refine sq (opk_store hA16 hB6 (r_store (vs := [.nilFunc, .nilFunc, .func (.func 93) #[] #[], .func (.func 94) #[] #[], .func (.func 95) #[] #[], .func (.func 96) #[] #[], .func (.func 97) #[] #[], .func (.func 98) #[] #[], .func (.func 99) #[] #[], .func (.func 100) #[] #[], .func (.func 101) #[] #[], .func (.func 102) #[] #[], .func (.func 103) #[] #[], .func (.func 104) #[] #[]]) (hA16.get rfl) (hA16.get rfl) rfl ti_114 hB6 rfl (ones_all [.nilFunc, .nilFunc, .func (.func 93) #[] #[], .func (.func 94) #[] #[], .func (.func 95) #[] #[], .func (.func 96) #[] #[], .func (.func 97) #[] #[], .func (.func 98) #[] #[], .func (.func 99) #[] #[], .func (.func 100) #[] #[], .func (.func 101) #[] #[], .func (.func 102) #[] #[], .func (.func 103) #[] #[], .func (.func 104) #[] #[]] rfl)) fun a18 w17 hS19 hB20 hA18 => ?_)
  have hB21 : Box w17 B_1 114 [.nilFunc, .nilFunc, .func (.func 93) #[] #[], .func (.func 94) #[] #[], .func (.func 95) #[] #[], .func (.func 96) #[] #[], .func (.func 97) #[] #[], .func (.func 98) #[] #[], .func (.func 99) #[] #[], .func (.func 100) #[] #[], .func (.func 101) #[] #[], .func (.func 102) #[] #[], .func (.func 103) #[] #[], .func (.func 104) #[] #[]] := hB20
  have hC22 := hC8.storeNew hN7 hS19
  have hN23 := hN7.up hS19.size
  refine sq_end ?_
  have hA24 := hA18.keep [(0, .pointer (some (⟨B_1, 0, none⟩ : Addr)))] ⟨rfl, trivial⟩
  refine then_normal ?_
  refine wp_ret ?_
  have ht25 := ht0 w17 B_1 hN23  hC22
  exact res_all (vs := [.agg #[.nilFunc, .nilFunc, .func (.func 93) #[] #[], .func (.func 94) #[] #[], .func (.func 95) #[] #[], .func (.func 96) #[] #[], .func (.func 97) #[] #[], .func (.func 98) #[] #[], .func (.func 99) #[] #[], .func (.func 100) #[] #[], .func (.func 101) #[] #[], .func (.func 102) #[] #[], .func (.func 103) #[] #[], .func (.func 104) #[] #[]]]) rfl hA24 ⟨res_of_cell hA24 rfl hB21 Try.underlying114 rfl ti_114, trivial⟩ ht25

/-- The condition of topiary/apply.calls.1. -/
def apply_calls_1.vc (d_1 : Addr) (o_2_Kind : Int) (o_2_ID : Int) (o_2_Parent : Int) (o_2_At : Int) (o_2_What : Int) (o_2_Name : Str) (o_2_Text : Str) (R : Value → World → Prop) (w : World) : Prop :=
∀ (w4 : World) (B_3 : Nat), New w B_3 w4 → Chg [] w w4 →
CallK Try.prog 14 #[.pointer (some d_1), .int .i64 o_2_ID, .int .i64 o_2_Parent, .int .i64 o_2_At, .agg #[.int .i64 o_2_What, .string (Bs o_2_Name), .string (Bs o_2_Text), Sl.v Sl.nil, Sl.v Sl.nil]] w4 [B_3] (fun v w30 => ∃ (r_28 : Int), v = .int .i64 r_28 ∧
R (.int .i64 r_28) w30)
set_option maxHeartbeats 1000000 in
set_option maxRecDepth 10000 in
theorem apply_calls_1.ok (d_1 : Addr) (o_2_Kind : Int) (o_2_ID : Int) (o_2_Parent : Int) (o_2_At : Int) (o_2_What : Int) (o_2_Name : Str) (o_2_Text : Str) {R : Value → World → Prop} {w : World} (ht0 : apply_calls_1.vc d_1 o_2_Kind o_2_ID o_2_Parent o_2_At o_2_What o_2_Name o_2_Text R w) : Calls Try.prog 93 #[.pointer (some d_1), .agg #[.int .i64 o_2_Kind, .int .i64 o_2_ID, .int .i64 o_2_Parent, .int .i64 o_2_At, .int .i64 o_2_What, .string (Bs o_2_Name), .string (Bs o_2_Text)]] w (Ret R) := by
  refine enter [.pointer (some d_1), .agg #[.int .i64 o_2_Kind, .int .i64 o_2_ID, .int .i64 o_2_Parent, .int .i64 o_2_At, .int .i64 o_2_What, .string (Bs o_2_Name), .string (Bs o_2_Text)]] Try.func93 rfl Try.ntmps93 rfl ?_
  intro a0 hA0
  unfold apply_calls_1.vc at ht0
  refine wp_seq ?_
  refine wp_region_lit ?_
  refine sq (opk_new (fun B => .pointer (some ⟨B, 0, none⟩)) hA0 rfl (r_box (cs := [.int .i64 o_2_Kind, .int .i64 o_2_ID, .int .i64 o_2_Parent, .int .i64 o_2_At, .int .i64 o_2_What, .string (Bs o_2_Name), .string (Bs o_2_Text)]) (hA0.get rfl) rfl) fun a5 w4 B_3 hE6 hN7 hB8 hA5 _ => ?_)
  have hN9 : New w B_3 w4 := hN7
  have hC10 : Chg [] w w4 := hE6
  refine sq (opk_val hA5 rfl (r_assign rfl) fun a11 hA11 _ => ?_)
  refine sq_end ?_
  have hA12 := hA11.keep [(0, .pointer (some d_1)), (3, .pointer (some (⟨B_3, 0, none⟩ : Addr)))] ⟨rfl, rfl, trivial⟩
  refine then_normal ?_
  refine wp_seq ?_
  refine wp_region_lit ?_
  refine sq (opk_val hA12 rfl (r_move (hA12.get rfl)) fun a13 hA13 _ => ?_)
  refine sq (opk_val hA13 rfl (r_fieldAddr (hA13.get rfl) Try.underlying48 rfl ti_3 (by decide)) fun a14 hA14 _ => ?_)
  refine sq (opk_val hA14 rfl (r_load1 Try.underlying3 rfl (hA14.get rfl) (hB8.cell 1 _ rfl)) fun a15 hA15 _ => ?_)
  refine sq (opk_val hA15 rfl (r_fieldAddr (hA15.get rfl) Try.underlying48 rfl ti_3 (by decide)) fun a16 hA16 _ => ?_)
  refine sq (opk_val hA16 rfl (r_load1 Try.underlying3 rfl (hA16.get rfl) (hB8.cell 2 _ rfl)) fun a17 hA17 _ => ?_)
  refine sq (opk_val hA17 rfl (r_fieldAddr (hA17.get rfl) Try.underlying48 rfl ti_3 (by decide)) fun a18 hA18 _ => ?_)
  refine sq (opk_val hA18 rfl (r_load1 Try.underlying3 rfl (hA18.get rfl) (hB8.cell 3 _ rfl)) fun a19 hA19 _ => ?_)
  refine sq (opk_val hA19 rfl (r_fieldAddr (hA19.get rfl) Try.underlying48 rfl ti_3 (by decide)) fun a20 hA20 _ => ?_)
  refine sq (opk_val hA20 rfl (r_load1 Try.underlying3 rfl (hA20.get rfl) (hB8.cell 4 _ rfl)) fun a21 hA21 _ => ?_)
  refine sq (opk_val hA21 rfl (r_fieldAddr (hA21.get rfl) Try.underlying48 rfl ti_9 (by decide)) fun a22 hA22 _ => ?_)
  refine sq (opk_val hA22 rfl (r_load1 Try.underlying9 rfl (hA22.get rfl) (hB8.cell 5 _ rfl)) fun a23 hA23 _ => ?_)
  refine sq (opk_val hA23 rfl (r_fieldAddr (hA23.get rfl) Try.underlying48 rfl ti_9 (by decide)) fun a24 hA24 _ => ?_)
  refine sq (opk_val hA24 rfl (r_load1 Try.underlying9 rfl (hA24.get rfl) (hB8.cell 6 _ rfl)) fun a25 hA25 _ => ?_)
  refine sq (opk_val hA25 rfl (r_build (vs := #[(0, .int .i64 o_2_What), (1, .string (Bs o_2_Name)), (2, .string (Bs o_2_Text))]) (cells := #[.int .i64 o_2_What, .string (Bs o_2_Name), .string (Bs o_2_Text), Sl.v Sl.nil, Sl.v Sl.nil]) (map_arr2 (ml2_cons (hA25.get rfl) (ml2_cons (hA25.get rfl) (ml2_cons (hA25.get rfl) (ml2_nil))))) ti_29 Try.underlying29 pl_29 (by kernel_rfl)) fun a26 hA26 _ => ?_)
  have ht27 := ht0 w4 B_3 hN9  hC10
  refine sq (opk_call hA26 rfl (r_call (args := #[.pointer (some d_1), .int .i64 o_2_ID, .int .i64 o_2_Parent, .int .i64 o_2_At, .agg #[.int .i64 o_2_What, .string (Bs o_2_Name), .string (Bs o_2_Text), Sl.v Sl.nil, Sl.v Sl.nil]]) Try.func14 (by decide) rfl (map_arr (ml_cons (hA26.get rfl) (ml_cons (hA26.get rfl) (ml_cons (hA26.get rfl) (ml_cons (hA26.get rfl) (ml_cons (hA26.get rfl) ml_nil)))))) rfl) ht27 fun a29 v35 w30 hA29 _ hn32 hz33 hK34 => ?_)
  obtain ⟨r_28, rfl, ht31⟩ := hK34
  have hB36 := hB8.kept hn32 (.head _)
  refine sq (opk_val hA29 rfl (r_assign (hA29.get rfl)) fun a37 hA37 _ => ?_)
  refine sq_end ?_
  have hA38 := hA37.keep [(4, .int .i64 r_28)] ⟨rfl, trivial⟩
  refine then_normal ?_
  refine wp_ret ?_
  exact res_all (vs := [.int .i64 r_28]) rfl hA38 ⟨res_of_tmp hA38 rfl, trivial⟩ ht31

/-- The condition of topiary/apply.calls.3. -/
def apply_calls_3.vc (d_1 : Addr) (o_2_Kind : Int) (o_2_ID : Int) (o_2_Parent : Int) (o_2_At : Int) (o_2_What : Int) (o_2_Name : Str) (o_2_Text : Str) (R : Value → World → Prop) (w : World) : Prop :=
∀ (w4 : World) (B_3 : Nat), New w B_3 w4 → Chg [] w w4 →
CallK Try.prog 22 #[.pointer (some d_1), .int .i64 o_2_ID] w4 [B_3] (fun v w19 => ∃ (r_17 : Int), v = .int .i64 r_17 ∧
R (.int .i64 r_17) w19)
set_option maxHeartbeats 1000000 in
set_option maxRecDepth 10000 in
theorem apply_calls_3.ok (d_1 : Addr) (o_2_Kind : Int) (o_2_ID : Int) (o_2_Parent : Int) (o_2_At : Int) (o_2_What : Int) (o_2_Name : Str) (o_2_Text : Str) {R : Value → World → Prop} {w : World} (ht0 : apply_calls_3.vc d_1 o_2_Kind o_2_ID o_2_Parent o_2_At o_2_What o_2_Name o_2_Text R w) : Calls Try.prog 95 #[.pointer (some d_1), .agg #[.int .i64 o_2_Kind, .int .i64 o_2_ID, .int .i64 o_2_Parent, .int .i64 o_2_At, .int .i64 o_2_What, .string (Bs o_2_Name), .string (Bs o_2_Text)]] w (Ret R) := by
  refine enter [.pointer (some d_1), .agg #[.int .i64 o_2_Kind, .int .i64 o_2_ID, .int .i64 o_2_Parent, .int .i64 o_2_At, .int .i64 o_2_What, .string (Bs o_2_Name), .string (Bs o_2_Text)]] Try.func95 rfl Try.ntmps95 rfl ?_
  intro a0 hA0
  unfold apply_calls_3.vc at ht0
  refine wp_seq ?_
  refine wp_region_lit ?_
  refine sq (opk_new (fun B => .pointer (some ⟨B, 0, none⟩)) hA0 rfl (r_box (cs := [.int .i64 o_2_Kind, .int .i64 o_2_ID, .int .i64 o_2_Parent, .int .i64 o_2_At, .int .i64 o_2_What, .string (Bs o_2_Name), .string (Bs o_2_Text)]) (hA0.get rfl) rfl) fun a5 w4 B_3 hE6 hN7 hB8 hA5 _ => ?_)
  have hN9 : New w B_3 w4 := hN7
  have hC10 : Chg [] w w4 := hE6
  refine sq (opk_val hA5 rfl (r_assign rfl) fun a11 hA11 _ => ?_)
  refine sq_end ?_
  have hA12 := hA11.keep [(0, .pointer (some d_1)), (3, .pointer (some (⟨B_3, 0, none⟩ : Addr)))] ⟨rfl, rfl, trivial⟩
  refine then_normal ?_
  refine wp_seq ?_
  refine wp_region_lit ?_
  refine sq (opk_val hA12 rfl (r_move (hA12.get rfl)) fun a13 hA13 _ => ?_)
  refine sq (opk_val hA13 rfl (r_fieldAddr (hA13.get rfl) Try.underlying48 rfl ti_3 (by decide)) fun a14 hA14 _ => ?_)
  refine sq (opk_val hA14 rfl (r_load1 Try.underlying3 rfl (hA14.get rfl) (hB8.cell 1 _ rfl)) fun a15 hA15 _ => ?_)
  have ht16 := ht0 w4 B_3 hN9  hC10
  refine sq (opk_call hA15 rfl (r_call (args := #[.pointer (some d_1), .int .i64 o_2_ID]) Try.func22 (by decide) rfl (map_arr (ml_cons (hA15.get rfl) (ml_cons (hA15.get rfl) ml_nil))) rfl) ht16 fun a18 v24 w19 hA18 _ hn21 hz22 hK23 => ?_)
  obtain ⟨r_17, rfl, ht20⟩ := hK23
  have hB25 := hB8.kept hn21 (.head _)
  refine sq (opk_val hA18 rfl (r_assign (hA18.get rfl)) fun a26 hA26 _ => ?_)
  refine sq_end ?_
  have hA27 := hA26.keep [(4, .int .i64 r_17)] ⟨rfl, trivial⟩
  refine then_normal ?_
  refine wp_ret ?_
  exact res_all (vs := [.int .i64 r_17]) rfl hA27 ⟨res_of_tmp hA27 rfl, trivial⟩ ht20

/-- The condition of topiary/apply.calls.4. -/
def apply_calls_4.vc (o_1_Kind : Int) (o_1_ID : Int) (o_1_Parent : Int) (o_1_At : Int) (o_1_What : Int) (o_1_Name : Str) (o_1_Text : Str) (R : Value → World → Prop) (w : World) : Prop :=
∀ (w23 : World) (B_2 : Nat) (B_10 : Nat), New w B_2 w23 → New w B_10 w23 → B_2 ≠ B_10 → Chg [] w w23 →
R (.agg #[.int .i64 0, .int .i64 0, .int .i64 0, .int .i64 0, .int .i64 0, .string (Bs ([] : Str)), .string (Bs ([] : Str))]) w23
set_option maxHeartbeats 1000000 in
set_option maxRecDepth 10000 in
theorem apply_calls_4.ok (o_1_Kind : Int) (o_1_ID : Int) (o_1_Parent : Int) (o_1_At : Int) (o_1_What : Int) (o_1_Name : Str) (o_1_Text : Str) {R : Value → World → Prop} {w : World} (ht0 : apply_calls_4.vc o_1_Kind o_1_ID o_1_Parent o_1_At o_1_What o_1_Name o_1_Text R w) : Calls Try.prog 96 #[.agg #[.int .i64 o_1_Kind, .int .i64 o_1_ID, .int .i64 o_1_Parent, .int .i64 o_1_At, .int .i64 o_1_What, .string (Bs o_1_Name), .string (Bs o_1_Text)]] w (Ret R) := by
  refine enter [.agg #[.int .i64 o_1_Kind, .int .i64 o_1_ID, .int .i64 o_1_Parent, .int .i64 o_1_At, .int .i64 o_1_What, .string (Bs o_1_Name), .string (Bs o_1_Text)]] Try.func96 rfl Try.ntmps96 rfl ?_
  intro a0 hA0
  unfold apply_calls_4.vc at ht0
  refine wp_seq ?_
  refine wp_region_lit ?_
  refine sq (opk_new (fun B => .pointer (some ⟨B, 0, none⟩)) hA0 rfl (r_box (cs := [.int .i64 o_1_Kind, .int .i64 o_1_ID, .int .i64 o_1_Parent, .int .i64 o_1_At, .int .i64 o_1_What, .string (Bs o_1_Name), .string (Bs o_1_Text)]) (hA0.get rfl) rfl) fun a4 w3 B_2 hE5 hN6 hB7 hA4 _ => ?_)
  have hN8 : New w B_2 w3 := hN6
  have hC9 : Chg [] w w3 := hE5
  refine sq (opk_new (fun B => .pointer (some ⟨B, 0, none⟩)) hA4 rfl (r_alloc (cs := [.int .i64 0, .int .i64 0, .int .i64 0, .int .i64 0, .int .i64 0, .string (Bs ([] : Str)), .string (Bs ([] : Str))]) ti_48 rfl) fun a12 w11 B_10 hE13 hN14 hB15 hA12 _ => ?_)
  have hne16 : B_2 ≠ B_10 := Nat.ne_of_lt (Nat.lt_of_lt_of_le hB7.lt hN14.ge)
  have hN17 := New.of hC9 hN14
  have hB18 := hB7.ext hE13
  have hC19 := hC9.more hE13
  have hN20 := hN8.up hE13.size
  refine sq_end ?_
  have hA21 := hA12.keep [(2, .pointer (some (⟨B_10, 0, none⟩ : Addr)))] ⟨rfl, trivial⟩
  refine then_normal ?_
  refine wp_seq ?_
  refine wp_region_lit ?_
  refine sq (opk_val hA21 rfl (r_build (vs := #[]) (cells := #[.int .i64 0, .int .i64 0, .int .i64 0, .int .i64 0, .int .i64 0, .string (Bs ([] : Str)), .string (Bs ([] : Str))]) (map_arr2 ml2_nil) ti_48 Try.underlying48 pl_48 (by kernel_rfl)) fun a22 hA22 _ => ?_)
  refine sq (opk_store hA22 hB15 (r_store (vs := [.int .i64 0, .int .i64 0, .int .i64 0, .int .i64 0, .int .i64 0, .string (Bs ([] : Str)), .string (Bs ([] : Str))]) (hA22.get rfl) (hA22.get rfl) rfl ti_48 hB15 rfl (ones_all [.int .i64 0, .int .i64 0, .int .i64 0, .int .i64 0, .int .i64 0, .string (Bs ([] : Str)), .string (Bs ([] : Str))] rfl)) fun a24 w23 hS25 hB26 hA24 => ?_)
  have hB27 : Box w23 B_10 48 [.int .i64 0, .int .i64 0, .int .i64 0, .int .i64 0, .int .i64 0, .string (Bs ([] : Str)), .string (Bs ([] : Str))] := hB26
  have hC28 := hC19.storeNew hN17 hS25
  have hN29 := hN20.up hS25.size
  have hN30 := hN17.up hS25.size
  refine sq_end ?_
  have hA31 := hA24.keep [(2, .pointer (some (⟨B_10, 0, none⟩ : Addr)))] ⟨rfl, trivial⟩
  refine then_normal ?_
  refine wp_ret ?_
  have ht32 := ht0 w23 B_2 B_10 hN29 hN30 hne16 hC28
  exact res_all (vs := [.agg #[.int .i64 0, .int .i64 0, .int .i64 0, .int .i64 0, .int .i64 0, .string (Bs ([] : Str)), .string (Bs ([] : Str))]]) rfl hA31 ⟨res_of_cell hA31 rfl hB27 Try.underlying48 rfl ti_48, trivial⟩ ht32

/-- The condition of topiary/apply.calls.5. -/
def apply_calls_5.vc (d_1 : Addr) (o_2_Kind : Int) (o_2_ID : Int) (o_2_Parent : Int) (o_2_At : Int) (o_2_What : Int) (o_2_Name : Str) (o_2_Text : Str) (R : Value → World → Prop) (w : World) : Prop :=
∀ (w4 : World) (B_3 : Nat), New w B_3 w4 → Chg [] w w4 →
CallK Try.prog 26 #[.pointer (some d_1), .int .i64 o_2_ID, .int .i64 o_2_Parent, .int .i64 o_2_At] w4 [B_3] (fun v w23 => ∃ (r_21 : Int), v = .int .i64 r_21 ∧
R (.int .i64 r_21) w23)
set_option maxHeartbeats 1000000 in
set_option maxRecDepth 10000 in
theorem apply_calls_5.ok (d_1 : Addr) (o_2_Kind : Int) (o_2_ID : Int) (o_2_Parent : Int) (o_2_At : Int) (o_2_What : Int) (o_2_Name : Str) (o_2_Text : Str) {R : Value → World → Prop} {w : World} (ht0 : apply_calls_5.vc d_1 o_2_Kind o_2_ID o_2_Parent o_2_At o_2_What o_2_Name o_2_Text R w) : Calls Try.prog 97 #[.pointer (some d_1), .agg #[.int .i64 o_2_Kind, .int .i64 o_2_ID, .int .i64 o_2_Parent, .int .i64 o_2_At, .int .i64 o_2_What, .string (Bs o_2_Name), .string (Bs o_2_Text)]] w (Ret R) := by
  refine enter [.pointer (some d_1), .agg #[.int .i64 o_2_Kind, .int .i64 o_2_ID, .int .i64 o_2_Parent, .int .i64 o_2_At, .int .i64 o_2_What, .string (Bs o_2_Name), .string (Bs o_2_Text)]] Try.func97 rfl Try.ntmps97 rfl ?_
  intro a0 hA0
  unfold apply_calls_5.vc at ht0
  refine wp_seq ?_
  refine wp_region_lit ?_
  refine sq (opk_new (fun B => .pointer (some ⟨B, 0, none⟩)) hA0 rfl (r_box (cs := [.int .i64 o_2_Kind, .int .i64 o_2_ID, .int .i64 o_2_Parent, .int .i64 o_2_At, .int .i64 o_2_What, .string (Bs o_2_Name), .string (Bs o_2_Text)]) (hA0.get rfl) rfl) fun a5 w4 B_3 hE6 hN7 hB8 hA5 _ => ?_)
  have hN9 : New w B_3 w4 := hN7
  have hC10 : Chg [] w w4 := hE6
  refine sq (opk_val hA5 rfl (r_assign rfl) fun a11 hA11 _ => ?_)
  refine sq_end ?_
  have hA12 := hA11.keep [(0, .pointer (some d_1)), (3, .pointer (some (⟨B_3, 0, none⟩ : Addr)))] ⟨rfl, rfl, trivial⟩
  refine then_normal ?_
  refine wp_seq ?_
  refine wp_region_lit ?_
  refine sq (opk_val hA12 rfl (r_move (hA12.get rfl)) fun a13 hA13 _ => ?_)
  refine sq (opk_val hA13 rfl (r_fieldAddr (hA13.get rfl) Try.underlying48 rfl ti_3 (by decide)) fun a14 hA14 _ => ?_)
  refine sq (opk_val hA14 rfl (r_load1 Try.underlying3 rfl (hA14.get rfl) (hB8.cell 1 _ rfl)) fun a15 hA15 _ => ?_)
  refine sq (opk_val hA15 rfl (r_fieldAddr (hA15.get rfl) Try.underlying48 rfl ti_3 (by decide)) fun a16 hA16 _ => ?_)
  refine sq (opk_val hA16 rfl (r_load1 Try.underlying3 rfl (hA16.get rfl) (hB8.cell 2 _ rfl)) fun a17 hA17 _ => ?_)
  refine sq (opk_val hA17 rfl (r_fieldAddr (hA17.get rfl) Try.underlying48 rfl ti_3 (by decide)) fun a18 hA18 _ => ?_)
  refine sq (opk_val hA18 rfl (r_load1 Try.underlying3 rfl (hA18.get rfl) (hB8.cell 3 _ rfl)) fun a19 hA19 _ => ?_)
  have ht20 := ht0 w4 B_3 hN9  hC10
  refine sq (opk_call hA19 rfl (r_call (args := #[.pointer (some d_1), .int .i64 o_2_ID, .int .i64 o_2_Parent, .int .i64 o_2_At]) Try.func26 (by decide) rfl (map_arr (ml_cons (hA19.get rfl) (ml_cons (hA19.get rfl) (ml_cons (hA19.get rfl) (ml_cons (hA19.get rfl) ml_nil))))) rfl) ht20 fun a22 v28 w23 hA22 _ hn25 hz26 hK27 => ?_)
  obtain ⟨r_21, rfl, ht24⟩ := hK27
  have hB29 := hB8.kept hn25 (.head _)
  refine sq (opk_val hA22 rfl (r_assign (hA22.get rfl)) fun a30 hA30 _ => ?_)
  refine sq_end ?_
  have hA31 := hA30.keep [(4, .int .i64 r_21)] ⟨rfl, trivial⟩
  refine then_normal ?_
  refine wp_ret ?_
  exact res_all (vs := [.int .i64 r_21]) rfl hA31 ⟨res_of_tmp hA31 rfl, trivial⟩ ht24

/-- The condition of topiary/apply.calls.6. -/
def apply_calls_6.vc (o_1_Kind : Int) (o_1_ID : Int) (o_1_Parent : Int) (o_1_At : Int) (o_1_What : Int) (o_1_Name : Str) (o_1_Text : Str) (R : Value → World → Prop) (w : World) : Prop :=
∀ (w27 : World) (B_2 : Nat) (B_10 : Nat), New w B_2 w27 → New w B_10 w27 → B_2 ≠ B_10 → Chg [] w w27 →
R (.agg #[.int .i64 0, .int .i64 0, .int .i64 o_1_Parent, .int .i64 o_1_At, .int .i64 0, .string (Bs ([] : Str)), .string (Bs ([] : Str))]) w27
set_option maxHeartbeats 1000000 in
set_option maxRecDepth 10000 in
theorem apply_calls_6.ok (o_1_Kind : Int) (o_1_ID : Int) (o_1_Parent : Int) (o_1_At : Int) (o_1_What : Int) (o_1_Name : Str) (o_1_Text : Str) {R : Value → World → Prop} {w : World} (ht0 : apply_calls_6.vc o_1_Kind o_1_ID o_1_Parent o_1_At o_1_What o_1_Name o_1_Text R w) : Calls Try.prog 98 #[.agg #[.int .i64 o_1_Kind, .int .i64 o_1_ID, .int .i64 o_1_Parent, .int .i64 o_1_At, .int .i64 o_1_What, .string (Bs o_1_Name), .string (Bs o_1_Text)]] w (Ret R) := by
  refine enter [.agg #[.int .i64 o_1_Kind, .int .i64 o_1_ID, .int .i64 o_1_Parent, .int .i64 o_1_At, .int .i64 o_1_What, .string (Bs o_1_Name), .string (Bs o_1_Text)]] Try.func98 rfl Try.ntmps98 rfl ?_
  intro a0 hA0
  unfold apply_calls_6.vc at ht0
  refine wp_seq ?_
  refine wp_region_lit ?_
  refine sq (opk_new (fun B => .pointer (some ⟨B, 0, none⟩)) hA0 rfl (r_box (cs := [.int .i64 o_1_Kind, .int .i64 o_1_ID, .int .i64 o_1_Parent, .int .i64 o_1_At, .int .i64 o_1_What, .string (Bs o_1_Name), .string (Bs o_1_Text)]) (hA0.get rfl) rfl) fun a4 w3 B_2 hE5 hN6 hB7 hA4 _ => ?_)
  have hN8 : New w B_2 w3 := hN6
  have hC9 : Chg [] w w3 := hE5
  refine sq (opk_new (fun B => .pointer (some ⟨B, 0, none⟩)) hA4 rfl (r_alloc (cs := [.int .i64 0, .int .i64 0, .int .i64 0, .int .i64 0, .int .i64 0, .string (Bs ([] : Str)), .string (Bs ([] : Str))]) ti_48 rfl) fun a12 w11 B_10 hE13 hN14 hB15 hA12 _ => ?_)
  have hne16 : B_2 ≠ B_10 := Nat.ne_of_lt (Nat.lt_of_lt_of_le hB7.lt hN14.ge)
  have hN17 := New.of hC9 hN14
  have hB18 := hB7.ext hE13
  have hC19 := hC9.more hE13
  have hN20 := hN8.up hE13.size
  refine sq_end ?_
  have hA21 := hA12.keep [(1, .pointer (some (⟨B_2, 0, none⟩ : Addr))), (2, .pointer (some (⟨B_10, 0, none⟩ : Addr)))] ⟨rfl, rfl, trivial⟩
  refine then_normal ?_
  refine wp_seq ?_
  refine wp_region_lit ?_
  refine sq (opk_val hA21 rfl (r_fieldAddr (hA21.get rfl) Try.underlying48 rfl ti_3 (by decide)) fun a22 hA22 _ => ?_)
  refine sq (opk_val hA22 rfl (r_load1 Try.underlying3 rfl (hA22.get rfl) (hB18.cell 2 _ rfl)) fun a23 hA23 _ => ?_)
  refine sq (opk_val hA23 rfl (r_fieldAddr (hA23.get rfl) Try.underlying48 rfl ti_3 (by decide)) fun a24 hA24 _ => ?_)
  refine sq (opk_val hA24 rfl (r_load1 Try.underlying3 rfl (hA24.get rfl) (hB18.cell 3 _ rfl)) fun a25 hA25 _ => ?_)
  refine sq (opk_val hA25 rfl (r_build (vs := #[(2, .int .i64 o_1_Parent), (3, .int .i64 o_1_At)]) (cells := #[.int .i64 0, .int .i64 0, .int .i64 o_1_Parent, .int .i64 o_1_At, .int .i64 0, .string (Bs ([] : Str)), .string (Bs ([] : Str))]) (map_arr2 (ml2_cons (hA25.get rfl) (ml2_cons (hA25.get rfl) (ml2_nil)))) ti_48 Try.underlying48 pl_48 (by kernel_rfl)) fun a26 hA26 _ => ?_)
  refine sq (opk_store hA26 hB15 (r_store (vs := [.int .i64 0, .int .i64 0, .int .i64 o_1_Parent, .int .i64 o_1_At, .int .i64 0, .string (Bs ([] : Str)), .string (Bs ([] : Str))]) (hA26.get rfl) (hA26.get rfl) rfl ti_48 hB15 rfl (ones_all [.int .i64 0, .int .i64 0, .int .i64 o_1_Parent, .int .i64 o_1_At, .int .i64 0, .string (Bs ([] : Str)), .string (Bs ([] : Str))] rfl)) fun a28 w27 hS29 hB30 hA28 => ?_)
  have hB31 : Box w27 B_10 48 [.int .i64 0, .int .i64 0, .int .i64 o_1_Parent, .int .i64 o_1_At, .int .i64 0, .string (Bs ([] : Str)), .string (Bs ([] : Str))] := hB30
  have hB32 := hB18.keep hS29 (by simpa using hne16)
  have hC33 := hC19.storeNew hN17 hS29
  have hN34 := hN20.up hS29.size
  have hN35 := hN17.up hS29.size
  refine sq_end ?_
  have hA36 := hA28.keep [(2, .pointer (some (⟨B_10, 0, none⟩ : Addr)))] ⟨rfl, trivial⟩
  refine then_normal ?_
  refine wp_ret ?_
  have ht37 := ht0 w27 B_2 B_10 hN34 hN35 hne16 hC33
  exact res_all (vs := [.agg #[.int .i64 0, .int .i64 0, .int .i64 o_1_Parent, .int .i64 o_1_At, .int .i64 0, .string (Bs ([] : Str)), .string (Bs ([] : Str))]]) rfl hA36 ⟨res_of_cell hA36 rfl hB31 Try.underlying48 rfl ti_48, trivial⟩ ht37

/-- The condition of topiary/apply.calls.7. -/
def apply_calls_7.vc (d_1 : Addr) (o_2_Kind : Int) (o_2_ID : Int) (o_2_Parent : Int) (o_2_At : Int) (o_2_What : Int) (o_2_Name : Str) (o_2_Text : Str) (R : Value → World → Prop) (w : World) : Prop :=
∀ (w4 : World) (B_3 : Nat), New w B_3 w4 → Chg [] w w4 →
CallK Try.prog 15 #[.pointer (some d_1), .int .i64 o_2_ID, .string (Bs o_2_Name), .string (Bs o_2_Text)] w4 [B_3] (fun v w23 => ∃ (r_21 : Int), v = .int .i64 r_21 ∧
R (.int .i64 r_21) w23)
set_option maxHeartbeats 1000000 in
set_option maxRecDepth 10000 in
theorem apply_calls_7.ok (d_1 : Addr) (o_2_Kind : Int) (o_2_ID : Int) (o_2_Parent : Int) (o_2_At : Int) (o_2_What : Int) (o_2_Name : Str) (o_2_Text : Str) {R : Value → World → Prop} {w : World} (ht0 : apply_calls_7.vc d_1 o_2_Kind o_2_ID o_2_Parent o_2_At o_2_What o_2_Name o_2_Text R w) : Calls Try.prog 99 #[.pointer (some d_1), .agg #[.int .i64 o_2_Kind, .int .i64 o_2_ID, .int .i64 o_2_Parent, .int .i64 o_2_At, .int .i64 o_2_What, .string (Bs o_2_Name), .string (Bs o_2_Text)]] w (Ret R) := by
  refine enter [.pointer (some d_1), .agg #[.int .i64 o_2_Kind, .int .i64 o_2_ID, .int .i64 o_2_Parent, .int .i64 o_2_At, .int .i64 o_2_What, .string (Bs o_2_Name), .string (Bs o_2_Text)]] Try.func99 rfl Try.ntmps99 rfl ?_
  intro a0 hA0
  unfold apply_calls_7.vc at ht0
  refine wp_seq ?_
  refine wp_region_lit ?_
  refine sq (opk_new (fun B => .pointer (some ⟨B, 0, none⟩)) hA0 rfl (r_box (cs := [.int .i64 o_2_Kind, .int .i64 o_2_ID, .int .i64 o_2_Parent, .int .i64 o_2_At, .int .i64 o_2_What, .string (Bs o_2_Name), .string (Bs o_2_Text)]) (hA0.get rfl) rfl) fun a5 w4 B_3 hE6 hN7 hB8 hA5 _ => ?_)
  have hN9 : New w B_3 w4 := hN7
  have hC10 : Chg [] w w4 := hE6
  refine sq (opk_val hA5 rfl (r_assign rfl) fun a11 hA11 _ => ?_)
  refine sq_end ?_
  have hA12 := hA11.keep [(0, .pointer (some d_1)), (3, .pointer (some (⟨B_3, 0, none⟩ : Addr)))] ⟨rfl, rfl, trivial⟩
  refine then_normal ?_
  refine wp_seq ?_
  refine wp_region_lit ?_
  refine sq (opk_val hA12 rfl (r_move (hA12.get rfl)) fun a13 hA13 _ => ?_)
  refine sq (opk_val hA13 rfl (r_fieldAddr (hA13.get rfl) Try.underlying48 rfl ti_3 (by decide)) fun a14 hA14 _ => ?_)
  refine sq (opk_val hA14 rfl (r_load1 Try.underlying3 rfl (hA14.get rfl) (hB8.cell 1 _ rfl)) fun a15 hA15 _ => ?_)
  refine sq (opk_val hA15 rfl (r_fieldAddr (hA15.get rfl) Try.underlying48 rfl ti_9 (by decide)) fun a16 hA16 _ => ?_)
  refine sq (opk_val hA16 rfl (r_load1 Try.underlying9 rfl (hA16.get rfl) (hB8.cell 5 _ rfl)) fun a17 hA17 _ => ?_)
  refine sq (opk_val hA17 rfl (r_fieldAddr (hA17.get rfl) Try.underlying48 rfl ti_9 (by decide)) fun a18 hA18 _ => ?_)
  refine sq (opk_val hA18 rfl (r_load1 Try.underlying9 rfl (hA18.get rfl) (hB8.cell 6 _ rfl)) fun a19 hA19 _ => ?_)
  have ht20 := ht0 w4 B_3 hN9  hC10
  refine sq (opk_call hA19 rfl (r_call (args := #[.pointer (some d_1), .int .i64 o_2_ID, .string (Bs o_2_Name), .string (Bs o_2_Text)]) Try.func15 (by decide) rfl (map_arr (ml_cons (hA19.get rfl) (ml_cons (hA19.get rfl) (ml_cons (hA19.get rfl) (ml_cons (hA19.get rfl) ml_nil))))) rfl) ht20 fun a22 v28 w23 hA22 _ hn25 hz26 hK27 => ?_)
  obtain ⟨r_21, rfl, ht24⟩ := hK27
  have hB29 := hB8.kept hn25 (.head _)
  refine sq (opk_val hA22 rfl (r_assign (hA22.get rfl)) fun a30 hA30 _ => ?_)
  refine sq_end ?_
  have hA31 := hA30.keep [(4, .int .i64 r_21)] ⟨rfl, trivial⟩
  refine then_normal ?_
  refine wp_ret ?_
  exact res_all (vs := [.int .i64 r_21]) rfl hA31 ⟨res_of_tmp hA31 rfl, trivial⟩ ht24

/-- The condition of topiary/apply.calls.8. -/
def apply_calls_8.vc (o_1_Kind : Int) (o_1_ID : Int) (o_1_Parent : Int) (o_1_At : Int) (o_1_What : Int) (o_1_Name : Str) (o_1_Text : Str) (R : Value → World → Prop) (w : World) : Prop :=
∀ (w27 : World) (B_2 : Nat) (B_10 : Nat), New w B_2 w27 → New w B_10 w27 → B_2 ≠ B_10 → Chg [] w w27 →
R (.agg #[.int .i64 0, .int .i64 0, .int .i64 0, .int .i64 0, .int .i64 0, .string (Bs o_1_Name), .string (Bs o_1_Text)]) w27
set_option maxHeartbeats 1000000 in
set_option maxRecDepth 10000 in
theorem apply_calls_8.ok (o_1_Kind : Int) (o_1_ID : Int) (o_1_Parent : Int) (o_1_At : Int) (o_1_What : Int) (o_1_Name : Str) (o_1_Text : Str) {R : Value → World → Prop} {w : World} (ht0 : apply_calls_8.vc o_1_Kind o_1_ID o_1_Parent o_1_At o_1_What o_1_Name o_1_Text R w) : Calls Try.prog 100 #[.agg #[.int .i64 o_1_Kind, .int .i64 o_1_ID, .int .i64 o_1_Parent, .int .i64 o_1_At, .int .i64 o_1_What, .string (Bs o_1_Name), .string (Bs o_1_Text)]] w (Ret R) := by
  refine enter [.agg #[.int .i64 o_1_Kind, .int .i64 o_1_ID, .int .i64 o_1_Parent, .int .i64 o_1_At, .int .i64 o_1_What, .string (Bs o_1_Name), .string (Bs o_1_Text)]] Try.func100 rfl Try.ntmps100 rfl ?_
  intro a0 hA0
  unfold apply_calls_8.vc at ht0
  refine wp_seq ?_
  refine wp_region_lit ?_
  refine sq (opk_new (fun B => .pointer (some ⟨B, 0, none⟩)) hA0 rfl (r_box (cs := [.int .i64 o_1_Kind, .int .i64 o_1_ID, .int .i64 o_1_Parent, .int .i64 o_1_At, .int .i64 o_1_What, .string (Bs o_1_Name), .string (Bs o_1_Text)]) (hA0.get rfl) rfl) fun a4 w3 B_2 hE5 hN6 hB7 hA4 _ => ?_)
  have hN8 : New w B_2 w3 := hN6
  have hC9 : Chg [] w w3 := hE5
  refine sq (opk_new (fun B => .pointer (some ⟨B, 0, none⟩)) hA4 rfl (r_alloc (cs := [.int .i64 0, .int .i64 0, .int .i64 0, .int .i64 0, .int .i64 0, .string (Bs ([] : Str)), .string (Bs ([] : Str))]) ti_48 rfl) fun a12 w11 B_10 hE13 hN14 hB15 hA12 _ => ?_)
  have hne16 : B_2 ≠ B_10 := Nat.ne_of_lt (Nat.lt_of_lt_of_le hB7.lt hN14.ge)
  have hN17 := New.of hC9 hN14
  have hB18 := hB7.ext hE13
  have hC19 := hC9.more hE13
  have hN20 := hN8.up hE13.size
  refine sq_end ?_
  have hA21 := hA12.keep [(1, .pointer (some (⟨B_2, 0, none⟩ : Addr))), (2, .pointer (some (⟨B_10, 0, none⟩ : Addr)))] ⟨rfl, rfl, trivial⟩
  refine then_normal ?_
  refine wp_seq ?_
  refine wp_region_lit ?_
  refine sq (opk_val hA21 rfl (r_fieldAddr (hA21.get rfl) Try.underlying48 rfl ti_9 (by decide)) fun a22 hA22 _ => ?_)
  refine sq (opk_val hA22 rfl (r_load1 Try.underlying9 rfl (hA22.get rfl) (hB18.cell 5 _ rfl)) fun a23 hA23 _ => ?_)
  refine sq (opk_val hA23 rfl (r_fieldAddr (hA23.get rfl) Try.underlying48 rfl ti_9 (by decide)) fun a24 hA24 _ => ?_)
  refine sq (opk_val hA24 rfl (r_load1 Try.underlying9 rfl (hA24.get rfl) (hB18.cell 6 _ rfl)) fun a25 hA25 _ => ?_)
  refine sq (opk_val hA25 rfl (r_build (vs := #[(5, .string (Bs o_1_Name)), (6, .string (Bs o_1_Text))]) (cells := #[.int .i64 0, .int .i64 0, .int .i64 0, .int .i64 0, .int .i64 0, .string (Bs o_1_Name), .string (Bs o_1_Text)]) (map_arr2 (ml2_cons (hA25.get rfl) (ml2_cons (hA25.get rfl) (ml2_nil)))) ti_48 Try.underlying48 pl_48 (by kernel_rfl)) fun a26 hA26 _ => ?_)
  refine sq (opk_store hA26 hB15 (r_store (vs := [.int .i64 0, .int .i64 0, .int .i64 0, .int .i64 0, .int .i64 0, .string (Bs o_1_Name), .string (Bs o_1_Text)]) (hA26.get rfl) (hA26.get rfl) rfl ti_48 hB15 rfl (ones_all [.int .i64 0, .int .i64 0, .int .i64 0, .int .i64 0, .int .i64 0, .string (Bs o_1_Name), .string (Bs o_1_Text)] rfl)) fun a28 w27 hS29 hB30 hA28 => ?_)
  have hB31 : Box w27 B_10 48 [.int .i64 0, .int .i64 0, .int .i64 0, .int .i64 0, .int .i64 0, .string (Bs o_1_Name), .string (Bs o_1_Text)] := hB30
  have hB32 := hB18.keep hS29 (by simpa using hne16)
  have hC33 := hC19.storeNew hN17 hS29
  have hN34 := hN20.up hS29.size
  have hN35 := hN17.up hS29.size
  refine sq_end ?_
  have hA36 := hA28.keep [(2, .pointer (some (⟨B_10, 0, none⟩ : Addr)))] ⟨rfl, trivial⟩
  refine then_normal ?_
  refine wp_ret ?_
  have ht37 := ht0 w27 B_2 B_10 hN34 hN35 hne16 hC33
  exact res_all (vs := [.agg #[.int .i64 0, .int .i64 0, .int .i64 0, .int .i64 0, .int .i64 0, .string (Bs o_1_Name), .string (Bs o_1_Text)]]) rfl hA36 ⟨res_of_cell hA36 rfl hB31 Try.underlying48 rfl ti_48, trivial⟩ ht37

/-- The condition of topiary/apply.calls.9. -/
def apply_calls_9.vc (d_1 : Addr) (o_2_Kind : Int) (o_2_ID : Int) (o_2_Parent : Int) (o_2_At : Int) (o_2_What : Int) (o_2_Name : Str) (o_2_Text : Str) (R : Value → World → Prop) (w : World) : Prop :=
∀ (w4 : World) (B_3 : Nat), New w B_3 w4 → Chg [] w w4 →
CallK Try.prog 29 #[.pointer (some d_1), .int .i64 o_2_ID, .string (Bs o_2_Name)] w4 [B_3] (fun v w21 => ∃ (r_19 : Int), v = .int .i64 r_19 ∧
R (.int .i64 r_19) w21)
set_option maxHeartbeats 1000000 in
set_option maxRecDepth 10000 in
theorem apply_calls_9.ok (d_1 : Addr) (o_2_Kind : Int) (o_2_ID : Int) (o_2_Parent : Int) (o_2_At : Int) (o_2_What : Int) (o_2_Name : Str) (o_2_Text : Str) {R : Value → World → Prop} {w : World} (ht0 : apply_calls_9.vc d_1 o_2_Kind o_2_ID o_2_Parent o_2_At o_2_What o_2_Name o_2_Text R w) : Calls Try.prog 101 #[.pointer (some d_1), .agg #[.int .i64 o_2_Kind, .int .i64 o_2_ID, .int .i64 o_2_Parent, .int .i64 o_2_At, .int .i64 o_2_What, .string (Bs o_2_Name), .string (Bs o_2_Text)]] w (Ret R) := by
  refine enter [.pointer (some d_1), .agg #[.int .i64 o_2_Kind, .int .i64 o_2_ID, .int .i64 o_2_Parent, .int .i64 o_2_At, .int .i64 o_2_What, .string (Bs o_2_Name), .string (Bs o_2_Text)]] Try.func101 rfl Try.ntmps101 rfl ?_
  intro a0 hA0
  unfold apply_calls_9.vc at ht0
  refine wp_seq ?_
  refine wp_region_lit ?_
  refine sq (opk_new (fun B => .pointer (some ⟨B, 0, none⟩)) hA0 rfl (r_box (cs := [.int .i64 o_2_Kind, .int .i64 o_2_ID, .int .i64 o_2_Parent, .int .i64 o_2_At, .int .i64 o_2_What, .string (Bs o_2_Name), .string (Bs o_2_Text)]) (hA0.get rfl) rfl) fun a5 w4 B_3 hE6 hN7 hB8 hA5 _ => ?_)
  have hN9 : New w B_3 w4 := hN7
  have hC10 : Chg [] w w4 := hE6
  refine sq (opk_val hA5 rfl (r_assign rfl) fun a11 hA11 _ => ?_)
  refine sq_end ?_
  have hA12 := hA11.keep [(0, .pointer (some d_1)), (3, .pointer (some (⟨B_3, 0, none⟩ : Addr)))] ⟨rfl, rfl, trivial⟩
  refine then_normal ?_
  refine wp_seq ?_
  refine wp_region_lit ?_
  refine sq (opk_val hA12 rfl (r_move (hA12.get rfl)) fun a13 hA13 _ => ?_)
  refine sq (opk_val hA13 rfl (r_fieldAddr (hA13.get rfl) Try.underlying48 rfl ti_3 (by decide)) fun a14 hA14 _ => ?_)
  refine sq (opk_val hA14 rfl (r_load1 Try.underlying3 rfl (hA14.get rfl) (hB8.cell 1 _ rfl)) fun a15 hA15 _ => ?_)
  refine sq (opk_val hA15 rfl (r_fieldAddr (hA15.get rfl) Try.underlying48 rfl ti_9 (by decide)) fun a16 hA16 _ => ?_)
  refine sq (opk_val hA16 rfl (r_load1 Try.underlying9 rfl (hA16.get rfl) (hB8.cell 5 _ rfl)) fun a17 hA17 _ => ?_)
  have ht18 := ht0 w4 B_3 hN9  hC10
  refine sq (opk_call hA17 rfl (r_call (args := #[.pointer (some d_1), .int .i64 o_2_ID, .string (Bs o_2_Name)]) Try.func29 (by decide) rfl (map_arr (ml_cons (hA17.get rfl) (ml_cons (hA17.get rfl) (ml_cons (hA17.get rfl) ml_nil)))) rfl) ht18 fun a20 v26 w21 hA20 _ hn23 hz24 hK25 => ?_)
  obtain ⟨r_19, rfl, ht22⟩ := hK25
  have hB27 := hB8.kept hn23 (.head _)
  refine sq (opk_val hA20 rfl (r_assign (hA20.get rfl)) fun a28 hA28 _ => ?_)
  refine sq_end ?_
  have hA29 := hA28.keep [(4, .int .i64 r_19)] ⟨rfl, trivial⟩
  refine then_normal ?_
  refine wp_ret ?_
  exact res_all (vs := [.int .i64 r_19]) rfl hA29 ⟨res_of_tmp hA29 rfl, trivial⟩ ht22

/-- The condition of topiary/apply.calls.10. -/
def apply_calls_10.vc (o_1_Kind : Int) (o_1_ID : Int) (o_1_Parent : Int) (o_1_At : Int) (o_1_What : Int) (o_1_Name : Str) (o_1_Text : Str) (R : Value → World → Prop) (w : World) : Prop :=
∀ (w25 : World) (B_2 : Nat) (B_10 : Nat), New w B_2 w25 → New w B_10 w25 → B_2 ≠ B_10 → Chg [] w w25 →
R (.agg #[.int .i64 0, .int .i64 0, .int .i64 0, .int .i64 0, .int .i64 0, .string (Bs o_1_Name), .string (Bs ([] : Str))]) w25
set_option maxHeartbeats 1000000 in
set_option maxRecDepth 10000 in
theorem apply_calls_10.ok (o_1_Kind : Int) (o_1_ID : Int) (o_1_Parent : Int) (o_1_At : Int) (o_1_What : Int) (o_1_Name : Str) (o_1_Text : Str) {R : Value → World → Prop} {w : World} (ht0 : apply_calls_10.vc o_1_Kind o_1_ID o_1_Parent o_1_At o_1_What o_1_Name o_1_Text R w) : Calls Try.prog 102 #[.agg #[.int .i64 o_1_Kind, .int .i64 o_1_ID, .int .i64 o_1_Parent, .int .i64 o_1_At, .int .i64 o_1_What, .string (Bs o_1_Name), .string (Bs o_1_Text)]] w (Ret R) := by
  refine enter [.agg #[.int .i64 o_1_Kind, .int .i64 o_1_ID, .int .i64 o_1_Parent, .int .i64 o_1_At, .int .i64 o_1_What, .string (Bs o_1_Name), .string (Bs o_1_Text)]] Try.func102 rfl Try.ntmps102 rfl ?_
  intro a0 hA0
  unfold apply_calls_10.vc at ht0
  refine wp_seq ?_
  refine wp_region_lit ?_
  refine sq (opk_new (fun B => .pointer (some ⟨B, 0, none⟩)) hA0 rfl (r_box (cs := [.int .i64 o_1_Kind, .int .i64 o_1_ID, .int .i64 o_1_Parent, .int .i64 o_1_At, .int .i64 o_1_What, .string (Bs o_1_Name), .string (Bs o_1_Text)]) (hA0.get rfl) rfl) fun a4 w3 B_2 hE5 hN6 hB7 hA4 _ => ?_)
  have hN8 : New w B_2 w3 := hN6
  have hC9 : Chg [] w w3 := hE5
  refine sq (opk_new (fun B => .pointer (some ⟨B, 0, none⟩)) hA4 rfl (r_alloc (cs := [.int .i64 0, .int .i64 0, .int .i64 0, .int .i64 0, .int .i64 0, .string (Bs ([] : Str)), .string (Bs ([] : Str))]) ti_48 rfl) fun a12 w11 B_10 hE13 hN14 hB15 hA12 _ => ?_)
  have hne16 : B_2 ≠ B_10 := Nat.ne_of_lt (Nat.lt_of_lt_of_le hB7.lt hN14.ge)
  have hN17 := New.of hC9 hN14
  have hB18 := hB7.ext hE13
  have hC19 := hC9.more hE13
  have hN20 := hN8.up hE13.size
  refine sq_end ?_
  have hA21 := hA12.keep [(1, .pointer (some (⟨B_2, 0, none⟩ : Addr))), (2, .pointer (some (⟨B_10, 0, none⟩ : Addr)))] ⟨rfl, rfl, trivial⟩
  refine then_normal ?_
  refine wp_seq ?_
  refine wp_region_lit ?_
  refine sq (opk_val hA21 rfl (r_fieldAddr (hA21.get rfl) Try.underlying48 rfl ti_9 (by decide)) fun a22 hA22 _ => ?_)
  refine sq (opk_val hA22 rfl (r_load1 Try.underlying9 rfl (hA22.get rfl) (hB18.cell 5 _ rfl)) fun a23 hA23 _ => ?_)
  refine sq (opk_val hA23 rfl (r_build (vs := #[(5, .string (Bs o_1_Name))]) (cells := #[.int .i64 0, .int .i64 0, .int .i64 0, .int .i64 0, .int .i64 0, .string (Bs o_1_Name), .string (Bs ([] : Str))]) (map_arr2 (ml2_cons (hA23.get rfl) (ml2_nil))) ti_48 Try.underlying48 pl_48 (by kernel_rfl)) fun a24 hA24 _ => ?_)
  refine sq (opk_store hA24 hB15 (r_store (vs := [.int .i64 0, .int .i64 0, .int .i64 0, .int .i64 0, .int .i64 0, .string (Bs o_1_Name), .string (Bs ([] : Str))]) (hA24.get rfl) (hA24.get rfl) rfl ti_48 hB15 rfl (ones_all [.int .i64 0, .int .i64 0, .int .i64 0, .int .i64 0, .int .i64 0, .string (Bs o_1_Name), .string (Bs ([] : Str))] rfl)) fun a26 w25 hS27 hB28 hA26 => ?_)
  have hB29 : Box w25 B_10 48 [.int .i64 0, .int .i64 0, .int .i64 0, .int .i64 0, .int .i64 0, .string (Bs o_1_Name), .string (Bs ([] : Str))] := hB28
  have hB30 := hB18.keep hS27 (by simpa using hne16)
  have hC31 := hC19.storeNew hN17 hS27
  have hN32 := hN20.up hS27.size
  have hN33 := hN17.up hS27.size
  refine sq_end ?_
  have hA34 := hA26.keep [(2, .pointer (some (⟨B_10, 0, none⟩ : Addr)))] ⟨rfl, trivial⟩
  refine then_normal ?_
  refine wp_ret ?_
  have ht35 := ht0 w25 B_2 B_10 hN32 hN33 hne16 hC31
  exact res_all (vs := [.agg #[.int .i64 0, .int .i64 0, .int .i64 0, .int .i64 0, .int .i64 0, .string (Bs o_1_Name), .string (Bs ([] : Str))]]) rfl hA34 ⟨res_of_cell hA34 rfl hB29 Try.underlying48 rfl ti_48, trivial⟩ ht35

/-- The condition of topiary/apply.calls.11. -/
def apply_calls_11.vc (d_1 : Addr) (o_2_Kind : Int) (o_2_ID : Int) (o_2_Parent : Int) (o_2_At : Int) (o_2_What : Int) (o_2_Name : Str) (o_2_Text : Str) (R : Value → World → Prop) (w : World) : Prop :=
∀ (w4 : World) (B_3 : Nat), New w B_3 w4 → Chg [] w w4 →
CallK Try.prog 30 #[.pointer (some d_1), .int .i64 o_2_ID, .string (Bs o_2_Text)] w4 [B_3] (fun v w21 => ∃ (r_19 : Int), v = .int .i64 r_19 ∧
R (.int .i64 r_19) w21)
set_option maxHeartbeats 1000000 in
set_option maxRecDepth 10000 in
theorem apply_calls_11.ok (d_1 : Addr) (o_2_Kind : Int) (o_2_ID : Int) (o_2_Parent : Int) (o_2_At : Int) (o_2_What : Int) (o_2_Name : Str) (o_2_Text : Str) {R : Value → World → Prop} {w : World} (ht0 : apply_calls_11.vc d_1 o_2_Kind o_2_ID o_2_Parent o_2_At o_2_What o_2_Name o_2_Text R w) : Calls Try.prog 103 #[.pointer (some d_1), .agg #[.int .i64 o_2_Kind, .int .i64 o_2_ID, .int .i64 o_2_Parent, .int .i64 o_2_At, .int .i64 o_2_What, .string (Bs o_2_Name), .string (Bs o_2_Text)]] w (Ret R) := by
  refine enter [.pointer (some d_1), .agg #[.int .i64 o_2_Kind, .int .i64 o_2_ID, .int .i64 o_2_Parent, .int .i64 o_2_At, .int .i64 o_2_What, .string (Bs o_2_Name), .string (Bs o_2_Text)]] Try.func103 rfl Try.ntmps103 rfl ?_
  intro a0 hA0
  unfold apply_calls_11.vc at ht0
  refine wp_seq ?_
  refine wp_region_lit ?_
  refine sq (opk_new (fun B => .pointer (some ⟨B, 0, none⟩)) hA0 rfl (r_box (cs := [.int .i64 o_2_Kind, .int .i64 o_2_ID, .int .i64 o_2_Parent, .int .i64 o_2_At, .int .i64 o_2_What, .string (Bs o_2_Name), .string (Bs o_2_Text)]) (hA0.get rfl) rfl) fun a5 w4 B_3 hE6 hN7 hB8 hA5 _ => ?_)
  have hN9 : New w B_3 w4 := hN7
  have hC10 : Chg [] w w4 := hE6
  refine sq (opk_val hA5 rfl (r_assign rfl) fun a11 hA11 _ => ?_)
  refine sq_end ?_
  have hA12 := hA11.keep [(0, .pointer (some d_1)), (3, .pointer (some (⟨B_3, 0, none⟩ : Addr)))] ⟨rfl, rfl, trivial⟩
  refine then_normal ?_
  refine wp_seq ?_
  refine wp_region_lit ?_
  refine sq (opk_val hA12 rfl (r_move (hA12.get rfl)) fun a13 hA13 _ => ?_)
  refine sq (opk_val hA13 rfl (r_fieldAddr (hA13.get rfl) Try.underlying48 rfl ti_3 (by decide)) fun a14 hA14 _ => ?_)
  refine sq (opk_val hA14 rfl (r_load1 Try.underlying3 rfl (hA14.get rfl) (hB8.cell 1 _ rfl)) fun a15 hA15 _ => ?_)
  refine sq (opk_val hA15 rfl (r_fieldAddr (hA15.get rfl) Try.underlying48 rfl ti_9 (by decide)) fun a16 hA16 _ => ?_)
  refine sq (opk_val hA16 rfl (r_load1 Try.underlying9 rfl (hA16.get rfl) (hB8.cell 6 _ rfl)) fun a17 hA17 _ => ?_)
  have ht18 := ht0 w4 B_3 hN9  hC10
  refine sq (opk_call hA17 rfl (r_call (args := #[.pointer (some d_1), .int .i64 o_2_ID, .string (Bs o_2_Text)]) Try.func30 (by decide) rfl (map_arr (ml_cons (hA17.get rfl) (ml_cons (hA17.get rfl) (ml_cons (hA17.get rfl) ml_nil)))) rfl) ht18 fun a20 v26 w21 hA20 _ hn23 hz24 hK25 => ?_)
  obtain ⟨r_19, rfl, ht22⟩ := hK25
  have hB27 := hB8.kept hn23 (.head _)
  refine sq (opk_val hA20 rfl (r_assign (hA20.get rfl)) fun a28 hA28 _ => ?_)
  refine sq_end ?_
  have hA29 := hA28.keep [(4, .int .i64 r_19)] ⟨rfl, trivial⟩
  refine then_normal ?_
  refine wp_ret ?_
  exact res_all (vs := [.int .i64 r_19]) rfl hA29 ⟨res_of_tmp hA29 rfl, trivial⟩ ht22

/-- The condition of topiary/apply.calls.12. -/
def apply_calls_12.vc (o_1_Kind : Int) (o_1_ID : Int) (o_1_Parent : Int) (o_1_At : Int) (o_1_What : Int) (o_1_Name : Str) (o_1_Text : Str) (R : Value → World → Prop) (w : World) : Prop :=
∀ (w25 : World) (B_2 : Nat) (B_10 : Nat), New w B_2 w25 → New w B_10 w25 → B_2 ≠ B_10 → Chg [] w w25 →
R (.agg #[.int .i64 0, .int .i64 0, .int .i64 0, .int .i64 0, .int .i64 0, .string (Bs ([] : Str)), .string (Bs o_1_Text)]) w25
set_option maxHeartbeats 1000000 in
set_option maxRecDepth 10000 in
theorem apply_calls_12.ok (o_1_Kind : Int) (o_1_ID : Int) (o_1_Parent : Int) (o_1_At : Int) (o_1_What : Int) (o_1_Name : Str) (o_1_Text : Str) {R : Value → World → Prop} {w : World} (ht0 : apply_calls_12.vc o_1_Kind o_1_ID o_1_Parent o_1_At o_1_What o_1_Name o_1_Text R w) : Calls Try.prog 104 #[.agg #[.int .i64 o_1_Kind, .int .i64 o_1_ID, .int .i64 o_1_Parent, .int .i64 o_1_At, .int .i64 o_1_What, .string (Bs o_1_Name), .string (Bs o_1_Text)]] w (Ret R) := by
  refine enter [.agg #[.int .i64 o_1_Kind, .int .i64 o_1_ID, .int .i64 o_1_Parent, .int .i64 o_1_At, .int .i64 o_1_What, .string (Bs o_1_Name), .string (Bs o_1_Text)]] Try.func104 rfl Try.ntmps104 rfl ?_
  intro a0 hA0
  unfold apply_calls_12.vc at ht0
  refine wp_seq ?_
  refine wp_region_lit ?_
  refine sq (opk_new (fun B => .pointer (some ⟨B, 0, none⟩)) hA0 rfl (r_box (cs := [.int .i64 o_1_Kind, .int .i64 o_1_ID, .int .i64 o_1_Parent, .int .i64 o_1_At, .int .i64 o_1_What, .string (Bs o_1_Name), .string (Bs o_1_Text)]) (hA0.get rfl) rfl) fun a4 w3 B_2 hE5 hN6 hB7 hA4 _ => ?_)
  have hN8 : New w B_2 w3 := hN6
  have hC9 : Chg [] w w3 := hE5
  refine sq (opk_new (fun B => .pointer (some ⟨B, 0, none⟩)) hA4 rfl (r_alloc (cs := [.int .i64 0, .int .i64 0, .int .i64 0, .int .i64 0, .int .i64 0, .string (Bs ([] : Str)), .string (Bs ([] : Str))]) ti_48 rfl) fun a12 w11 B_10 hE13 hN14 hB15 hA12 _ => ?_)
  have hne16 : B_2 ≠ B_10 := Nat.ne_of_lt (Nat.lt_of_lt_of_le hB7.lt hN14.ge)
  have hN17 := New.of hC9 hN14
  have hB18 := hB7.ext hE13
  have hC19 := hC9.more hE13
  have hN20 := hN8.up hE13.size
  refine sq_end ?_
  have hA21 := hA12.keep [(1, .pointer (some (⟨B_2, 0, none⟩ : Addr))), (2, .pointer (some (⟨B_10, 0, none⟩ : Addr)))] ⟨rfl, rfl, trivial⟩
  refine then_normal ?_
  refine wp_seq ?_
  refine wp_region_lit ?_
  refine sq (opk_val hA21 rfl (r_fieldAddr (hA21.get rfl) Try.underlying48 rfl ti_9 (by decide)) fun a22 hA22 _ => ?_)
  refine sq (opk_val hA22 rfl (r_load1 Try.underlying9 rfl (hA22.get rfl) (hB18.cell 6 _ rfl)) fun a23 hA23 _ => ?_)
  refine sq (opk_val hA23 rfl (r_build (vs := #[(6, .string (Bs o_1_Text))]) (cells := #[.int .i64 0, .int .i64 0, .int .i64 0, .int .i64 0, .int .i64 0, .string (Bs ([] : Str)), .string (Bs o_1_Text)]) (map_arr2 (ml2_cons (hA23.get rfl) (ml2_nil))) ti_48 Try.underlying48 pl_48 (by kernel_rfl)) fun a24 hA24 _ => ?_)
  refine sq (opk_store hA24 hB15 (r_store (vs := [.int .i64 0, .int .i64 0, .int .i64 0, .int .i64 0, .int .i64 0, .string (Bs ([] : Str)), .string (Bs o_1_Text)]) (hA24.get rfl) (hA24.get rfl) rfl ti_48 hB15 rfl (ones_all [.int .i64 0, .int .i64 0, .int .i64 0, .int .i64 0, .int .i64 0, .string (Bs ([] : Str)), .string (Bs o_1_Text)] rfl)) fun a26 w25 hS27 hB28 hA26 => ?_)
  have hB29 : Box w25 B_10 48 [.int .i64 0, .int .i64 0, .int .i64 0, .int .i64 0, .int .i64 0, .string (Bs ([] : Str)), .string (Bs o_1_Text)] := hB28
  have hB30 := hB18.keep hS27 (by simpa using hne16)
  have hC31 := hC19.storeNew hN17 hS27
  have hN32 := hN20.up hS27.size
  have hN33 := hN17.up hS27.size
  refine sq_end ?_
  have hA34 := hA26.keep [(2, .pointer (some (⟨B_10, 0, none⟩ : Addr)))] ⟨rfl, trivial⟩
  refine then_normal ?_
  refine wp_ret ?_
  have ht35 := ht0 w25 B_2 B_10 hN32 hN33 hne16 hC31
  exact res_all (vs := [.agg #[.int .i64 0, .int .i64 0, .int .i64 0, .int .i64 0, .int .i64 0, .string (Bs ([] : Str)), .string (Bs o_1_Text)]]) rfl hA34 ⟨res_of_cell hA34 rfl hB29 Try.underlying48 rfl ti_48, trivial⟩ ht35

end Go.Proofs.Ytghmgfkdnolcdaa
