/-
  PRINTED BY PROGRAM: for each function its condition (vc), and that this suffices (ok).
-/
import Derived.Test.YtghmgfkdnolcdaaQApplyInsertsGT
namespace Go.Proofs.Ytghmgfkdnolcdaa
open Go.RowKit
set_option linter.unusedVariables false

/-- The condition of topiary/topiarylaw23.awake. -/
def law23_awake.vc  (R : Value → World → Prop) (w : World) : Prop :=
∀ (w6 : World) (B_5 : Nat), New w B_5 w6 → Chg [] w w6 →
∀ (_ : Box w6 B_5 48 [.int .i64 2, .int .i64 0, .int .i64 0, .int .i64 0, .int .i64 0, .string (Bs ([] : Str)), .string (Bs ([] : Str))]),
CallK Try.prog 38 #[.agg #[.int .i64 1, .string (Bs ([] : Str)), .string (Bs ([] : Str)), Sl.v Sl.nil, Sl.v Sl.nil], Sl.v (Sl.mk (some ⟨B_5, 0, none⟩) 1 1)] w6 [] (fun v w19 => ∃ (r_0_15_Kind : Int) (r_0_15_Name : Str) (r_0_15_Text : Str) (r_0_15_Attrs : Sl) (r_0_15_Kids : Sl) (r_1_16 : Int) (r_2_17 : Int), v = .tuple #[.agg #[.int .i64 r_0_15_Kind, .string (Bs r_0_15_Name), .string (Bs r_0_15_Text), Sl.v r_0_15_Attrs, Sl.v r_0_15_Kids], .int .i64 r_1_16, .int .i64 r_2_17] ∧
∀ (w37 : World) (B_29 : Nat), New w19 B_29 w37 → Chg [] w19 w37 →
∃ (r_56 : Bool), ((((r_2_17 = 4) ∧ (r_1_16 = 0))) → Calls Try.prog 65 #[.agg #[.int .i64 2, .int .i64 0, .int .i64 0, .int .i64 0, .int .i64 0, .string (Bs ([] : Str)), .string (Bs ([] : Str))]] w37 (Ret fun v w' => Ext w37 w' ∧ v = .bool r_56)) ∧
(∀ w58 : World, Ext w37 w58 →
∃ (r_67 : Bool), (((((r_2_17 = 4) ∧ (r_1_16 = 0)) ∧ (r_56 = true))) → Calls Try.prog 65 #[.agg #[.int .i64 2, .int .i64 0, .int .i64 0, .int .i64 0, .int .i64 0, .string (Bs ([] : Str)), .string (Bs ([97] : Str))]] w58 (Ret fun v w' => Ext w58 w' ∧ v = .bool r_67)) ∧
(∀ w69 : World, Ext w58 w69 →
R (.bool ((((decide (r_2_17 = 4)) && (decide (r_1_16 = 0))) && r_56) && (!r_67))) w69)))
set_option maxHeartbeats 1000000 in
set_option maxRecDepth 10000 in
theorem law23_awake.ok  {R : Value → World → Prop} {w : World} (ht0 : law23_awake.vc  R w) : Calls Try.prog 37 #[] w (Ret R) := by
  refine enter [] Try.func37 rfl Try.ntmps37 rfl ?_
  intro a0 hA0
  unfold law23_awake.vc at ht0
  refine wp_seq ?_
  refine wp_region_lit ?_
  refine sq (opk_val hA0 rfl (r_assign rfl) fun a1 hA1 _ => ?_)
  refine sq_end ?_
  have hA2 := hA1.keep [] trivial
  refine then_normal ?_
  refine wp_seq ?_
  refine wp_region_lit ?_
  refine sq (opk_val hA2 rfl (r_build (vs := #[(0, .int .i64 1)]) (cells := #[.int .i64 1, .string (Bs ([] : Str)), .string (Bs ([] : Str)), Sl.v Sl.nil, Sl.v Sl.nil]) (map_arr2 (ml2_cons rfl (ml2_nil))) ti_29 Try.underlying29 pl_29 (by kernel_rfl)) fun a3 hA3 _ => ?_)
  refine sq (opk_val hA3 rfl (r_build (vs := #[(0, .int .i64 2)]) (cells := #[.int .i64 2, .int .i64 0, .int .i64 0, .int .i64 0, .int .i64 0, .string (Bs ([] : Str)), .string (Bs ([] : Str))]) (map_arr2 (ml2_cons rfl (ml2_nil))) ti_48 Try.underlying48 pl_48 (by kernel_rfl)) fun a4 hA4 _ => ?_)
  refine sq (opk_new (fun B => .slice (some ⟨B, 0, none⟩) 1 1) hA4 rfl (r_buildSlice (vs := #[(0, .agg #[.int .i64 2, .int .i64 0, .int .i64 0, .int .i64 0, .int .i64 0, .string (Bs ([] : Str)), .string (Bs ([] : Str))])]) (cs := [.int .i64 2, .int .i64 0, .int .i64 0, .int .i64 0, .int .i64 0, .string (Bs ([] : Str)), .string (Bs ([] : Str))]) (map_arr2 (ml2_cons (hA4.get rfl) (ml2_nil))) Try.underlying46 ti_48 rfl rfl (by kernel_rfl)) fun a7 w6 B_5 hE8 hN9 hB10 hA7 _ => ?_)
  have hN11 : New w B_5 w6 := hN9
  have hC12 : Chg [] w w6 := hE8
  have ht13 := ht0 w6 B_5 hN11  hC12
  have ht14 := ht13 hB10
  refine sq (opk_call hA7 rfl (r_call (args := #[.agg #[.int .i64 1, .string (Bs ([] : Str)), .string (Bs ([] : Str)), Sl.v Sl.nil, Sl.v Sl.nil], Sl.v (Sl.mk (some ⟨B_5, 0, none⟩) 1 1)]) Try.func38 (by decide) rfl (map_arr (ml_cons (hA7.get rfl) (ml_cons (hA7.get rfl) ml_nil))) rfl) ht14 fun a18 v24 w19 hA18 _ hn21 hz22 hK23 => ?_)
  obtain ⟨r_0_15_Kind, r_0_15_Name, r_0_15_Text, r_0_15_Attrs, r_0_15_Kids, r_1_16, r_2_17, rfl, ht20⟩ := hK23
  refine sq (opk_val hA18 rfl (r_move (hA18.get rfl)) fun a25 hA25 _ => ?_)
  refine sq (opk_val hA25 rfl (r_extract (hA25.get rfl) rfl) fun a26 hA26 _ => ?_)
  refine sq (opk_val hA26 rfl (r_extract (hA26.get rfl) rfl) fun a27 hA27 _ => ?_)
  refine sq (opk_val hA27 rfl (r_extract (hA27.get rfl) rfl) fun a28 hA28 _ => ?_)
  refine sq (opk_new (fun B => .pointer (some ⟨B, 0, none⟩)) hA28 rfl (r_alloc (cs := [.int .i64 0, .string (Bs ([] : Str)), .string (Bs ([] : Str)), Sl.v Sl.nil, Sl.v Sl.nil]) ti_29 rfl) fun a31 w30 B_29 hE32 hN33 hB34 hA31 _ => ?_)
  have hN35 : New w19 B_29 w30 := hN33
  have hC36 : Chg [] w19 w30 := hE32
  refine sq (opk_store hA31 hB34 (r_store (vs := [.int .i64 r_0_15_Kind, .string (Bs r_0_15_Name), .string (Bs r_0_15_Text), Sl.v r_0_15_Attrs, Sl.v r_0_15_Kids]) (hA31.get rfl) (hA31.get rfl) rfl ti_29 hB34 rfl (ones_all [.int .i64 r_0_15_Kind, .string (Bs r_0_15_Name), .string (Bs r_0_15_Text), Sl.v r_0_15_Attrs, Sl.v r_0_15_Kids] rfl)) fun a38 w37 hS39 hB40 hA38 => ?_)
  have hB41 : Box w37 B_29 29 [.int .i64 r_0_15_Kind, .string (Bs r_0_15_Name), .string (Bs r_0_15_Text), Sl.v r_0_15_Attrs, Sl.v r_0_15_Kids] := hB40
  have hC42 := hC36.storeNew hN35 hS39
  have hN43 := hN35.up hS39.size
  refine sq (opk_val hA38 rfl (r_assign (hA38.get rfl)) fun a44 hA44 _ => ?_)
  refine sq (opk_val hA44 rfl (r_assign (hA44.get rfl)) fun a45 hA45 _ => ?_)
  refine sq_end ?_
  have hA46 := hA45.keep [(2, .int .i64 r_1_16), (3, .int .i64 r_2_17)] ⟨rfl, rfl, trivial⟩
  refine then_normal ?_
  refine wp_seq ?_
  refine wp_region_lit ?_
  refine sq (opk_val hA46 rfl (r_move (hA46.get rfl)) fun a47 hA47 _ => ?_)
  refine sq (opk_val hA47 rfl (r_eql (hA47.get rfl) rfl) fun a48 hA48 _ => ?_)
  refine sq (opk_val hA48 rfl (r_move (hA48.get rfl)) fun a49 hA49 _ => ?_)
  refine sq (opk_gval hA49 rfl rfl (g := true) (e := (decide (r_2_17 = 4))) rfl (fun hg => r_move (hA49.get rfl)) fun a50 hA50 _ => ?_)
  refine sq (opk_gval hA50 rfl rfl (g := true) (e := (decide (r_2_17 = 4))) rfl (fun hg => r_eql (cv_get (hA50.get rfl) hg) rfl) fun a51 hA51 _ => ?_)
  refine sq (opk_val hA51 rfl (r_pick_and (g := (true && ((decide (r_2_17 = 4)) == true))) (hA51.get rfl) (hA51.get rfl) (fun he => g_mkt rfl he)) fun a52 hA52 _ => ?_)
  refine sq (opk_val hA52 rfl (r_move (hA52.get rfl)) fun a53 hA53 _ => ?_)
  refine sq (opk_gval hA53 rfl rfl (g := true) (e := ((decide (r_2_17 = 4)) && (decide (r_1_16 = 0)))) rfl (fun hg => r_build (vs := #[(0, .int .i64 2)]) (cells := #[.int .i64 2, .int .i64 0, .int .i64 0, .int .i64 0, .int .i64 0, .string (Bs ([] : Str)), .string (Bs ([] : Str))]) (map_arr2 (ml2_cons rfl (ml2_nil))) ti_48 Try.underlying48 pl_48 (by kernel_rfl)) fun a54 hA54 _ => ?_)
  have ht55 := ht20 w37 B_29 hN43  hC42
  obtain ⟨r_56, hc60, ht59⟩ := ht55
  refine sq (opk_gcall hA54 rfl rfl (g := true) (e := ((decide (r_2_17 = 4)) && (decide (r_1_16 = 0)))) rfl (fun hg => r_call (args := #[.agg #[.int .i64 2, .int .i64 0, .int .i64 0, .int .i64 0, .int .i64 0, .string (Bs ([] : Str)), .string (Bs ([] : Str))]]) Try.func65 (by decide) rfl (map_arr (ml_cons (cv_get (hA54.get rfl) hg) ml_nil)) rfl) (fun hg => hc60 ⟨(of_decide_eq_true (b_and_t (g_t hg)).1), (of_decide_eq_true (b_and_t (g_t hg)).2)⟩) fun a57 w58 hA57 _ hE61 => ?_)
  have hC62 : Chg [] w37 w58 := hE61
  have ht63 := ht59 w58 hE61
  refine sq (opk_val hA57 rfl (r_pick_and (g := (true && (((decide (r_2_17 = 4)) && (decide (r_1_16 = 0))) == true))) (hA57.get rfl) (hA57.get rfl) (fun he => g_mkt rfl he)) fun a64 hA64 _ => ?_)
  refine sq (opk_val hA64 rfl (r_move (hA64.get rfl)) fun a65 hA65 _ => ?_)
  refine sq (opk_gval hA65 rfl rfl (g := true) (e := (((decide (r_2_17 = 4)) && (decide (r_1_16 = 0))) && r_56)) rfl (fun hg => r_build (vs := #[(0, .int .i64 2), (6, .string (Bs ([97] : Str)))]) (cells := #[.int .i64 2, .int .i64 0, .int .i64 0, .int .i64 0, .int .i64 0, .string (Bs ([] : Str)), .string (Bs ([97] : Str))]) (map_arr2 (ml2_cons rfl (ml2_cons rfl (ml2_nil)))) ti_48 Try.underlying48 pl_48 (by kernel_rfl)) fun a66 hA66 _ => ?_)
  obtain ⟨r_67, hc71, ht70⟩ := ht63
  refine sq (opk_gcall hA66 rfl rfl (g := true) (e := (((decide (r_2_17 = 4)) && (decide (r_1_16 = 0))) && r_56)) rfl (fun hg => r_call (args := #[.agg #[.int .i64 2, .int .i64 0, .int .i64 0, .int .i64 0, .int .i64 0, .string (Bs ([] : Str)), .string (Bs ([97] : Str))]]) Try.func65 (by decide) rfl (map_arr (ml_cons (cv_get (hA66.get rfl) hg) ml_nil)) rfl) (fun hg => hc71 ⟨⟨(of_decide_eq_true (b_and_t (b_and_t (g_t hg)).1).1), (of_decide_eq_true (b_and_t (b_and_t (g_t hg)).1).2)⟩, (b_and_t (g_t hg)).2⟩) fun a68 w69 hA68 _ hE72 => ?_)
  have hC73 : Chg [] w58 w69 := hE72
  have ht74 := ht70 w69 hE72
  refine sq (opk_gval hA68 rfl rfl (g := true) (e := (((decide (r_2_17 = 4)) && (decide (r_1_16 = 0))) && r_56)) rfl (fun hg => r_not (cv_get (hA68.get rfl) hg)) fun a75 hA75 _ => ?_)
  refine sq (opk_val hA75 rfl (r_pick_and (g := (true && ((((decide (r_2_17 = 4)) && (decide (r_1_16 = 0))) && r_56) == true))) (hA75.get rfl) (hA75.get rfl) (fun he => g_mkt rfl he)) fun a76 hA76 _ => ?_)
  refine sq (opk_val hA76 rfl (r_assign (hA76.get rfl)) fun a77 hA77 _ => ?_)
  refine sq_end ?_
  have hA78 := hA77.keep [(0, .bool ((((decide (r_2_17 = 4)) && (decide (r_1_16 = 0))) && r_56) && (!r_67)))] ⟨rfl, trivial⟩
  refine then_normal ?_
  refine wp_ret ?_
  exact res_all (vs := [.bool ((((decide (r_2_17 = 4)) && (decide (r_1_16 = 0))) && r_56) && (!r_67))]) rfl hA78 ⟨res_of_tmp hA78 rfl, trivial⟩ ht74

end Go.Proofs.Ytghmgfkdnolcdaa
