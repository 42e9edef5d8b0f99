/-
  PRINTED BY PROGRAM: for each function its condition (vc), and that this suffices (ok).
-/
import Derived.Test.YtpacegmmbabhjaaGT
namespace Go.Proofs.Ytpacegmmbabhjaa
open Go.RowKit
set_option linter.unusedVariables false

/-- The condition of topiary/tree.Check. -/
def tree_Check.vc (t_1_Kind : Int) (t_1_Name : Str) (t_1_Text : Str) (t_1_Attrs : Sl) (t_1_Kids : Sl) (R : Value → World → Prop) (w : World) : Prop :=
∀ (w3 : World) (B_2 : Nat), New w B_2 w3 → Chg [] w w3 →
∃ (r_18 : Int), (((t_1_Kind = 1)) → Calls Try.prog 21 #[.agg #[.int .i64 t_1_Kind, .string (Bs t_1_Name), .string (Bs t_1_Text), Sl.v t_1_Attrs, Sl.v t_1_Kids]] w3 (Ret fun v w' => Ext w3 w' ∧ v = .int .i64 r_18)) ∧
(∀ w20 : World, Ext w3 w20 →
∃ (r_31 : Int), ((((t_1_Kind = 1) ∧ (r_18 ≤ 300))) → Calls Try.prog 18 #[.agg #[.int .i64 t_1_Kind, .string (Bs t_1_Name), .string (Bs t_1_Text), Sl.v t_1_Attrs, Sl.v t_1_Kids]] w20 (Ret fun v w' => Ext w20 w' ∧ v = .int .i64 r_31)) ∧
(∀ w33 : World, Ext w20 w33 →
∀ (w48 : World), Chg [] w33 w48 →
∀ (B_47 : Nat) (_ : w33.heap.size ≤ B_47) (_ : ((((t_1_Kind = 1) ∧ (r_18 ≤ 300)) ∧ (r_31 ≤ 60))) → Box w48 B_47 9 [.string (Bs t_1_Name), .string (Bs t_1_Text)]),
∃ (r_61 : Bool), (((((t_1_Kind = 1) ∧ (r_18 ≤ 300)) ∧ (r_31 ≤ 60))) → Calls Try.prog 36 #[Sl.v (Sl.mk (some ⟨B_47, 0, none⟩) 2 2)] w48 (Ret fun v w' => Ext w48 w' ∧ v = .bool r_61)) ∧
(∀ w63 : World, Ext w48 w63 →
∃ (r_79 : Bool), (((((((t_1_Kind = 1) ∧ (r_18 ≤ 300)) ∧ (r_31 ≤ 60)) ∧ (r_61 = true)) ∧ ((t_1_Attrs.n : Int) = 0))) → Calls Try.prog 37 #[.agg #[.int .i64 t_1_Kind, .string (Bs t_1_Name), .string (Bs t_1_Text), Sl.v t_1_Attrs, Sl.v t_1_Kids]] w63 (Ret fun v w' => Ext w63 w' ∧ v = .bool r_79)) ∧
(∀ w81 : World, Ext w63 w81 →
R (.bool ((((((decide (t_1_Kind = 1)) && (decide (r_18 ≤ 300))) && (decide (r_31 ≤ 60))) && r_61) && (decide ((t_1_Attrs.n : Int) = 0))) && r_79)) w81))))
set_option maxHeartbeats 1000000 in
set_option maxRecDepth 10000 in
theorem tree_Check.ok (t_1_Kind : Int) (t_1_Name : Str) (t_1_Text : Str) (t_1_Attrs : Sl) (t_1_Kids : Sl) {R : Value → World → Prop} {w : World} (ht0 : tree_Check.vc t_1_Kind t_1_Name t_1_Text t_1_Attrs t_1_Kids R w) : Calls Try.prog 12 #[.agg #[.int .i64 t_1_Kind, .string (Bs t_1_Name), .string (Bs t_1_Text), Sl.v t_1_Attrs, Sl.v t_1_Kids]] w (Ret R) := by
  refine enter [.agg #[.int .i64 t_1_Kind, .string (Bs t_1_Name), .string (Bs t_1_Text), Sl.v t_1_Attrs, Sl.v t_1_Kids]] Try.func12 rfl Try.ntmps12 rfl ?_
  intro a0 hA0
  unfold tree_Check.vc at ht0
  refine wp_seq ?_
  refine wp_region_lit ?_
  refine sq (opk_new (fun B => .pointer (some ⟨B, 0, none⟩)) hA0 rfl (r_box (cs := [.int .i64 t_1_Kind, .string (Bs t_1_Name), .string (Bs t_1_Text), Sl.v t_1_Attrs, Sl.v t_1_Kids]) (hA0.get rfl) rfl) fun a4 w3 B_2 hE5 hN6 hB7 hA4 _ => ?_)
  have hN8 : New w B_2 w3 := hN6
  have hC9 : Chg [] w w3 := hE5
  refine sq (opk_val hA4 rfl (r_assign rfl) fun a10 hA10 _ => ?_)
  refine sq_end ?_
  have hA11 := hA10.keep [(1, .pointer (some ⟨B_2, 0, none⟩))] ⟨rfl, trivial⟩
  refine then_normal ?_
  refine wp_seq ?_
  refine wp_region_lit ?_
  refine sq (opk_val hA11 rfl (r_fieldAddr (hA11.get rfl) Try.underlying26 rfl ti_3 (by decide)) fun a12 hA12 _ => ?_)
  refine sq (opk_val hA12 rfl (r_load1 Try.underlying3 rfl (hA12.get rfl) (hB7.cell 0 _ rfl)) fun a13 hA13 _ => ?_)
  refine sq (opk_val hA13 rfl (r_eql (hA13.get rfl) rfl) fun a14 hA14 _ => ?_)
  refine sq (opk_val hA14 rfl (r_move (hA14.get rfl)) fun a15 hA15 _ => ?_)
  refine sq (opk_gval hA15 rfl rfl (g := true) (e := (decide (t_1_Kind = 1))) rfl (fun hg => r_loadN (cs := [.int .i64 t_1_Kind, .string (Bs t_1_Name), .string (Bs t_1_Text), Sl.v t_1_Attrs, Sl.v t_1_Kids]) Try.underlying26 rfl ti_26 (hA15.get rfl) (hB7.part 0 _ rfl)) fun a16 hA16 _ => ?_)
  have ht17 := ht0 w3 B_2 hN8  hC9
  obtain ⟨r_18, hc22, ht21⟩ := ht17
  refine sq (opk_gcall hA16 rfl rfl (g := true) (e := (decide (t_1_Kind = 1))) rfl (fun hg => r_call (args := #[.agg #[.int .i64 t_1_Kind, .string (Bs t_1_Name), .string (Bs t_1_Text), Sl.v t_1_Attrs, Sl.v t_1_Kids]]) Try.func21 (by decide) rfl (map_arr (ml_cons (cv_get (hA16.get rfl) hg) ml_nil)) rfl) (fun hg => hc22 (of_decide_eq_true (g_t hg))) fun a19 w20 hA19 _ hE23 => ?_)
  have hB24 := hB7.ext hE23
  have hC25 : Chg [] w3 w20 := hE23
  have ht26 := ht21 w20 hE23
  refine sq (opk_gval hA19 rfl rfl (g := true) (e := (decide (t_1_Kind = 1))) rfl (fun hg => r_leq (cv_get (hA19.get rfl) hg) rfl) fun a27 hA27 _ => ?_)
  refine sq (opk_val hA27 rfl (r_pick_and (g := (true && ((decide (t_1_Kind = 1)) == true))) (hA27.get rfl) (hA27.get rfl) (fun he => g_mkt rfl he)) fun a28 hA28 _ => ?_)
  refine sq (opk_val hA28 rfl (r_move (hA28.get rfl)) fun a29 hA29 _ => ?_)
  refine sq (opk_gval hA29 rfl rfl (g := true) (e := ((decide (t_1_Kind = 1)) && (decide (r_18 ≤ 300)))) rfl (fun hg => r_loadN (cs := [.int .i64 t_1_Kind, .string (Bs t_1_Name), .string (Bs t_1_Text), Sl.v t_1_Attrs, Sl.v t_1_Kids]) Try.underlying26 rfl ti_26 (hA29.get rfl) (hB24.part 0 _ rfl)) fun a30 hA30 _ => ?_)
  obtain ⟨r_31, hc35, ht34⟩ := ht26
  refine sq (opk_gcall hA30 rfl rfl (g := true) (e := ((decide (t_1_Kind = 1)) && (decide (r_18 ≤ 300)))) rfl (fun hg => r_call (args := #[.agg #[.int .i64 t_1_Kind, .string (Bs t_1_Name), .string (Bs t_1_Text), Sl.v t_1_Attrs, Sl.v t_1_Kids]]) Try.func18 (by decide) rfl (map_arr (ml_cons (cv_get (hA30.get rfl) hg) ml_nil)) rfl) (fun hg => hc35 ⟨(of_decide_eq_true (b_and_t (g_t hg)).1), (of_decide_eq_true (b_and_t (g_t hg)).2)⟩) fun a32 w33 hA32 _ hE36 => ?_)
  have hB37 := hB24.ext hE36
  have hC38 : Chg [] w20 w33 := hE36
  have ht39 := ht34 w33 hE36
  refine sq (opk_gval hA32 rfl rfl (g := true) (e := ((decide (t_1_Kind = 1)) && (decide (r_18 ≤ 300)))) rfl (fun hg => r_leq (cv_get (hA32.get rfl) hg) rfl) fun a40 hA40 _ => ?_)
  refine sq (opk_val hA40 rfl (r_pick_and (g := (true && (((decide (t_1_Kind = 1)) && (decide (r_18 ≤ 300))) == true))) (hA40.get rfl) (hA40.get rfl) (fun he => g_mkt rfl he)) fun a41 hA41 _ => ?_)
  refine sq (opk_val hA41 rfl (r_move (hA41.get rfl)) fun a42 hA42 _ => ?_)
  refine sq (opk_gval hA42 rfl rfl (g := true) (e := (((decide (t_1_Kind = 1)) && (decide (r_18 ≤ 300))) && (decide (r_31 ≤ 60)))) rfl (fun hg => r_fieldAddr (hA42.get rfl) Try.underlying26 rfl ti_9 (by decide)) fun a43 hA43 _ => ?_)
  refine sq (opk_gval hA43 rfl rfl (g := true) (e := (((decide (t_1_Kind = 1)) && (decide (r_18 ≤ 300))) && (decide (r_31 ≤ 60)))) rfl (fun hg => r_load1 Try.underlying9 rfl (cv_get (hA43.get rfl) hg) (hB37.cell 1 _ rfl)) fun a44 hA44 _ => ?_)
  refine sq (opk_gval hA44 rfl rfl (g := true) (e := (((decide (t_1_Kind = 1)) && (decide (r_18 ≤ 300))) && (decide (r_31 ≤ 60)))) rfl (fun hg => r_fieldAddr (hA44.get rfl) Try.underlying26 rfl ti_9 (by decide)) fun a45 hA45 _ => ?_)
  refine sq (opk_gval hA45 rfl rfl (g := true) (e := (((decide (t_1_Kind = 1)) && (decide (r_18 ≤ 300))) && (decide (r_31 ≤ 60)))) rfl (fun hg => r_load1 Try.underlying9 rfl (cv_get (hA45.get rfl) hg) (hB37.cell 2 _ rfl)) fun a46 hA46 _ => ?_)
  refine sq (opk_gnew2 (fun B => .slice (some ⟨B, 0, none⟩) 2 2) hA46 rfl rfl (g := true) (e := (((decide (t_1_Kind = 1)) && (decide (r_18 ≤ 300))) && (decide (r_31 ≤ 60)))) rfl (fun hg => r_buildSlice (vs := #[(0, .string (Bs t_1_Name)), (1, .string (Bs t_1_Text))]) (cs := [.string (Bs t_1_Name), .string (Bs t_1_Text)]) (map_arr2 (ml2_cons (cv_get (hA46.get rfl) hg) (ml2_cons (cv_get (hA46.get rfl) hg) (ml2_nil)))) Try.underlying61 ti_9 rfl rfl (by kernel_rfl)) fun a49 w48 B_47 hE50 hge53 hB52 hA49 _ => ?_)
  have hB54 := fun hg => (hB52 hg).2
  have hne55 : B_2 ≠ B_47 := Nat.ne_of_lt (Nat.lt_of_lt_of_le hB37.lt hge53)
  have hge56 : w33.heap.size ≤ B_47 := hge53
  have hB57 := hB37.ext hE50
  have hC58 : Chg [] w33 w48 := hE50
  have ht59 := ht39 w48    hC58
  have ht60 := ht59 B_47 hge56 (fun hp => hB54 ((g_mkt rfl (b_and_mk ⟨(b_and_mk ⟨(decide_eq_true hp.1.1), (decide_eq_true hp.1.2)⟩), (decide_eq_true hp.2)⟩))))
  obtain ⟨r_61, hc65, ht64⟩ := ht60
  refine sq (opk_gcall hA49 rfl rfl (g := true) (e := (((decide (t_1_Kind = 1)) && (decide (r_18 ≤ 300))) && (decide (r_31 ≤ 60)))) rfl (fun hg => r_call (args := #[Sl.v (Sl.mk (some ⟨B_47, 0, none⟩) 2 2)]) Try.func36 (by decide) rfl (map_arr (ml_cons (cv_get (hA49.get rfl) hg) ml_nil)) rfl) (fun hg => hc65 ⟨⟨(of_decide_eq_true (b_and_t (b_and_t (g_t hg)).1).1), (of_decide_eq_true (b_and_t (b_and_t (g_t hg)).1).2)⟩, (of_decide_eq_true (b_and_t (g_t hg)).2)⟩) fun a62 w63 hA62 _ hE66 => ?_)
  have hB67 := hB57.ext hE66
  have hC68 : Chg [] w48 w63 := hE66
  have ht69 := ht64 w63 hE66
  refine sq (opk_val hA62 rfl (r_pick_and (g := (true && ((((decide (t_1_Kind = 1)) && (decide (r_18 ≤ 300))) && (decide (r_31 ≤ 60))) == true))) (hA62.get rfl) (hA62.get rfl) (fun he => g_mkt rfl he)) fun a70 hA70 _ => ?_)
  refine sq (opk_val hA70 rfl (r_move (hA70.get rfl)) fun a71 hA71 _ => ?_)
  refine sq (opk_gval hA71 rfl rfl (g := true) (e := ((((decide (t_1_Kind = 1)) && (decide (r_18 ≤ 300))) && (decide (r_31 ≤ 60))) && r_61)) rfl (fun hg => r_fieldAddr (hA71.get rfl) Try.underlying26 rfl ti_23 (by decide)) fun a72 hA72 _ => ?_)
  refine sq (opk_gval hA72 rfl rfl (g := true) (e := ((((decide (t_1_Kind = 1)) && (decide (r_18 ≤ 300))) && (decide (r_31 ≤ 60))) && r_61)) rfl (fun hg => r_load1 Try.underlying23 rfl (cv_get (hA72.get rfl) hg) (hB67.cell 3 _ rfl)) fun a73 hA73 _ => ?_)
  refine sq (opk_gval hA73 rfl rfl (g := true) (e := ((((decide (t_1_Kind = 1)) && (decide (r_18 ≤ 300))) && (decide (r_31 ≤ 60))) && r_61)) rfl (fun hg => r_len (cv_get (hA73.get rfl) hg) Try.underlying23) fun a74 hA74 _ => ?_)
  refine sq (opk_gval hA74 rfl rfl (g := true) (e := ((((decide (t_1_Kind = 1)) && (decide (r_18 ≤ 300))) && (decide (r_31 ≤ 60))) && r_61)) rfl (fun hg => r_eql (cv_get (hA74.get rfl) hg) rfl) fun a75 hA75 _ => ?_)
  refine sq (opk_val hA75 rfl (r_pick_and (g := (true && (((((decide (t_1_Kind = 1)) && (decide (r_18 ≤ 300))) && (decide (r_31 ≤ 60))) && r_61) == true))) (hA75.get rfl) (hA75.get rfl) (fun he => g_mkt rfl he)) fun a76 hA76 _ => ?_)
  refine sq (opk_val hA76 rfl (r_move (hA76.get rfl)) fun a77 hA77 _ => ?_)
  refine sq (opk_gval hA77 rfl rfl (g := true) (e := (((((decide (t_1_Kind = 1)) && (decide (r_18 ≤ 300))) && (decide (r_31 ≤ 60))) && r_61) && (decide ((t_1_Attrs.n : Int) = 0)))) rfl (fun hg => r_loadN (cs := [.int .i64 t_1_Kind, .string (Bs t_1_Name), .string (Bs t_1_Text), Sl.v t_1_Attrs, Sl.v t_1_Kids]) Try.underlying26 rfl ti_26 (hA77.get rfl) (hB67.part 0 _ rfl)) fun a78 hA78 _ => ?_)
  obtain ⟨r_79, hc83, ht82⟩ := ht69
  refine sq (opk_gcall hA78 rfl rfl (g := true) (e := (((((decide (t_1_Kind = 1)) && (decide (r_18 ≤ 300))) && (decide (r_31 ≤ 60))) && r_61) && (decide ((t_1_Attrs.n : Int) = 0)))) rfl (fun hg => r_call (args := #[.agg #[.int .i64 t_1_Kind, .string (Bs t_1_Name), .string (Bs t_1_Text), Sl.v t_1_Attrs, Sl.v t_1_Kids]]) Try.func37 (by decide) rfl (map_arr (ml_cons (cv_get (hA78.get rfl) hg) ml_nil)) rfl) (fun hg => hc83 ⟨⟨⟨⟨(of_decide_eq_true (b_and_t (b_and_t (b_and_t (b_and_t (g_t hg)).1).1).1).1), (of_decide_eq_true (b_and_t (b_and_t (b_and_t (b_and_t (g_t hg)).1).1).1).2)⟩, (of_decide_eq_true (b_and_t (b_and_t (b_and_t (g_t hg)).1).1).2)⟩, (b_and_t (b_and_t (g_t hg)).1).2⟩, (of_decide_eq_true (b_and_t (g_t hg)).2)⟩) fun a80 w81 hA80 _ hE84 => ?_)
  have hB85 := hB67.ext hE84
  have hC86 : Chg [] w63 w81 := hE84
  have ht87 := ht82 w81 hE84
  refine sq (opk_val hA80 rfl (r_pick_and (g := (true && ((((((decide (t_1_Kind = 1)) && (decide (r_18 ≤ 300))) && (decide (r_31 ≤ 60))) && r_61) && (decide ((t_1_Attrs.n : Int) = 0))) == true))) (hA80.get rfl) (hA80.get rfl) (fun he => g_mkt rfl he)) fun a88 hA88 _ => ?_)
  refine sq (opk_val hA88 rfl (r_assign (hA88.get rfl)) fun a89 hA89 _ => ?_)
  refine sq_end ?_
  have hA90 := hA89.keep [(2, .bool ((((((decide (t_1_Kind = 1)) && (decide (r_18 ≤ 300))) && (decide (r_31 ≤ 60))) && r_61) && (decide ((t_1_Attrs.n : Int) = 0))) && r_79))] ⟨rfl, trivial⟩
  refine then_normal ?_
  refine wp_ret ?_
  exact res_all (vs := [.bool ((((((decide (t_1_Kind = 1)) && (decide (r_18 ≤ 300))) && (decide (r_31 ≤ 60))) && r_61) && (decide ((t_1_Attrs.n : Int) = 0))) && r_79)]) rfl hA90 ⟨res_of_tmp hA90 rfl, trivial⟩ ht87

/-- The condition of topiary/topiarylaw00.Tree. -/
def law00_Tree.vc (t_1_Kind : Int) (t_1_Name : Str) (t_1_Text : Str) (t_1_Attrs : Sl) (t_1_Kids : Sl) (R : Value → World → Prop) (w : World) : Prop :=
∀ (w22 : World) (B_2 : Nat) (B_10 : Nat), New w B_2 w22 → New w B_10 w22 → B_2 ≠ B_10 → Chg [] w w22 →
∃ V_36 : Sl → World → Prop, (∀ r_35 : Sl, ∀ w' w'' : World, Ext w' w'' → V_36 r_35 w' → V_36 r_35 w'') ∧
(∀ w' : World, Ext w22 w' → Calls Try.prog 38 #[Sl.v t_1_Attrs] w' (Ret fun v w'' => Ext w' w'' ∧ ∃ r_35 : Sl, v = Sl.v r_35 ∧ V_36 r_35 w'')) ∧
∀ (w51 : World) (r_35 : Sl) (B_45 : Nat), Ext w22 w51 → V_36 r_35 w51 → w22.heap.size ≤ B_45 → Box w51 B_45 26 [.int .i64 0, .string (Bs ([] : Str)), .string (Bs ([] : Str)), Sl.v Sl.nil, Sl.v Sl.nil] → 
∀ (w69 : World), Chg [B_45] w51 w69 →
∃ (J_190 : Int → Sl → World → Prop) (mu_191 : Int → Sl → World → Nat),
J_190 0 Sl.nil w69 ∧
(∀ (i_187 : Int) (c_188 : Sl) (w189 : World), J_190 i_187 c_188 w189 →
((i_187 < (t_1_Kids.n : Int)) →
∀ (w312 : World), Chg [] w189 w312 →
∃ p_323 : Addr, (((0 : Int) ≤ i_187 ∧ i_187 < (t_1_Kids.n : Int)) ∧ t_1_Kids.a = some p_323) ∧
∃ (x_327_Kind : Int) (x_327_Name : Str) (x_327_Text : Str) (x_327_Attrs : Sl) (x_327_Kids : Sl), (Cells w312 (p_323.add (i_187.toNat * 5)) [.int .i64 x_327_Kind, .string (Bs x_327_Name), .string (Bs x_327_Text), Sl.v x_327_Attrs, Sl.v x_327_Kids]) ∧
∃ V_332 : Int → Str → Str → Sl → Sl → World → Prop, (∀ r_331_Kind : Int, ∀ r_331_Name : Str, ∀ r_331_Text : Str, ∀ r_331_Attrs : Sl, ∀ r_331_Kids : Sl, ∀ w' w'' : World, Ext w' w'' → V_332 r_331_Kind r_331_Name r_331_Text r_331_Attrs r_331_Kids w' → V_332 r_331_Kind r_331_Name r_331_Text r_331_Attrs r_331_Kids w'') ∧
(∀ w' : World, Ext w312 w' → Calls Try.prog 13 #[.agg #[.int .i64 x_327_Kind, .string (Bs x_327_Name), .string (Bs x_327_Text), Sl.v x_327_Attrs, Sl.v x_327_Kids]] w' (Ret fun v w'' => Ext w' w'' ∧ ∃ r_331_Kind : Int, ∃ r_331_Name : Str, ∃ r_331_Text : Str, ∃ r_331_Attrs : Sl, ∃ r_331_Kids : Sl, v = .agg #[.int .i64 r_331_Kind, .string (Bs r_331_Name), .string (Bs r_331_Text), Sl.v r_331_Attrs, Sl.v r_331_Kids] ∧ V_332 r_331_Kind r_331_Name r_331_Text r_331_Attrs r_331_Kids w'')) ∧
∀ (w344 : World) (r_331_Kind : Int) (r_331_Name : Str) (r_331_Text : Str) (r_331_Attrs : Sl) (r_331_Kids : Sl) (B_338 : Nat), Ext w312 w344 → V_332 r_331_Kind r_331_Name r_331_Text r_331_Attrs r_331_Kids w344 → w312.heap.size ≤ B_338 → Box w344 B_338 26 [.int .i64 r_331_Kind, .string (Bs r_331_Name), .string (Bs r_331_Text), Sl.v r_331_Attrs, Sl.v r_331_Kids] → 
∀ (_ : Box w344 B_338 26 [.int .i64 r_331_Kind, .string (Bs r_331_Name), .string (Bs r_331_Text), Sl.v r_331_Attrs, Sl.v r_331_Kids]),
RunK Try.prog (Builtin.append_ #[24, 24] 24 #[Sl.v c_188, Sl.v (Sl.mk (some ⟨B_338, 0, none⟩) 1 1)]) w344 [B_2, B_10, B_45] (fun v w366 => ∃ (r_372 : Sl), v = Sl.v r_372 ∧
(I64 (i_187 + 1)) ∧
∀ (w388 : World), Chg [B_45] w366 w388 →
J_190 (i_187 + 1) r_372 w388 ∧ mu_191 (i_187 + 1) r_372 w388 < mu_191 i_187 c_188 w189)) ∧
((¬ (i_187 < (t_1_Kids.n : Int))) →
∀ (w407 : World), Chg [B_10] w189 w407 →
R (.agg #[.int .i64 t_1_Kind, .string (Bs t_1_Name), .string (Bs t_1_Text), Sl.v r_35, Sl.v c_188]) w407))
set_option maxHeartbeats 1000000 in
set_option maxRecDepth 10000 in
theorem law00_Tree.ok (t_1_Kind : Int) (t_1_Name : Str) (t_1_Text : Str) (t_1_Attrs : Sl) (t_1_Kids : Sl) {R : Value → World → Prop} {w : World} (ht0 : law00_Tree.vc t_1_Kind t_1_Name t_1_Text t_1_Attrs t_1_Kids R w) : Calls Try.prog 13 #[.agg #[.int .i64 t_1_Kind, .string (Bs t_1_Name), .string (Bs t_1_Text), Sl.v t_1_Attrs, Sl.v t_1_Kids]] w (Ret R) := by
  refine enter [.agg #[.int .i64 t_1_Kind, .string (Bs t_1_Name), .string (Bs t_1_Text), Sl.v t_1_Attrs, Sl.v t_1_Kids]] Try.func13 rfl Try.ntmps13 rfl ?_
  intro a0 hA0
  unfold law00_Tree.vc at ht0
  refine wp_seq ?_
  refine wp_region_lit ?_
  refine sq (opk_new (fun B => .pointer (some ⟨B, 0, none⟩)) hA0 rfl (r_box (cs := [.int .i64 t_1_Kind, .string (Bs t_1_Name), .string (Bs t_1_Text), Sl.v t_1_Attrs, Sl.v t_1_Kids]) (hA0.get rfl) rfl) fun a4 w3 B_2 hE5 hN6 hB7 hA4 _ => ?_)
  have hN8 : New w B_2 w3 := hN6
  have hC9 : Chg [] w w3 := hE5
  refine sq (opk_new (fun B => .pointer (some ⟨B, 0, none⟩)) hA4 rfl (r_alloc (cs := [.int .i64 0, .string (Bs ([] : Str)), .string (Bs ([] : Str)), Sl.v Sl.nil, Sl.v Sl.nil]) ti_26 rfl) fun a12 w11 B_10 hE13 hN14 hB15 hA12 _ => ?_)
  have hne16 : B_2 ≠ B_10 := Nat.ne_of_lt (Nat.lt_of_lt_of_le hB7.lt hN14.ge)
  have hN17 := New.of hC9 hN14
  have hB18 := hB7.ext hE13
  have hC19 := hC9.more hE13
  have hN20 := hN8.up hE13.size
  refine sq_end ?_
  have hA21 := hA12.keep [(1, .pointer (some ⟨B_2, 0, none⟩)), (2, .pointer (some ⟨B_10, 0, none⟩))] ⟨rfl, rfl, trivial⟩
  refine then_normal ?_
  refine wp_seq ?_
  refine draw' (by kernel_rfl) fun w22 hE23 => ?_
  have hB24 := hB18.ext hE23
  have hB25 := hB15.ext hE23
  have hC26 := hC19.more hE23
  have hN27 := hN20.up hE23.size
  have hN28 := hN17.up hE23.size
  have ht29 := ht0 w22 B_2 B_10 hN27 hN28 hne16 hC26
  obtain ⟨V_36, hst37, hc38, ht39⟩ := ht29
  refine par (D := [[], [0], [], [2], [], [4], [], [6], [6, 7], [0, 1, 2, 3, 4, 5, 6, 7, 8], [], [0, 1, 2, 3, 4, 5, 6, 7, 8, 9, 10]]) (S := [0, 1, 2, 3, 4, 5, 6, 7, 8, 9, 10]) (F := []) (V := VL [(0, fun v _ => v = .pointer (some ⟨B_2, 0, none⟩)), (1, fun v _ => v = .int .i64 t_1_Kind), (2, fun v _ => v = .pointer (some ⟨B_2, 1, none⟩)), (3, fun v _ => v = .string (Bs t_1_Name)), (4, fun v _ => v = .pointer (some ⟨B_2, 2, none⟩)), (5, fun v _ => v = .string (Bs t_1_Text)), (6, fun v _ => v = .pointer (some ⟨B_2, 3, none⟩)), (7, fun v _ => v = Sl.v t_1_Attrs), (8, fun v w' => ∃ r_35 : Sl, V_36 r_35 w' ∧ v = Sl.v r_35), (9, fun v w' => ∃ r_35 : Sl, V_36 r_35 w' ∧ v = .agg #[.int .i64 t_1_Kind, .string (Bs t_1_Name), .string (Bs t_1_Text), Sl.v r_35, Sl.v Sl.nil]), (10, fun v w' => ∃ B_45 : Nat, w22.heap.size ≤ B_45 ∧ Box w' B_45 26 [.int .i64 0, .string (Bs ([] : Str)), .string (Bs ([] : Str)), Sl.v Sl.nil, Sl.v Sl.nil] ∧ v = .pointer (some ⟨B_45, 0, none⟩))]) hA21 (by kernel_rfl) ⟨fun _ _ _ _ h => by first | exact h | (change _ = _ at h; change _ = _; exact h), fun _ _ _ _ h => by first | exact h | (change _ = _ at h; change _ = _; exact h), fun _ _ _ _ h => by first | exact h | (change _ = _ at h; change _ = _; exact h), fun _ _ _ _ h => by first | exact h | (change _ = _ at h; change _ = _; exact h), fun _ _ _ _ h => by first | exact h | (change _ = _ at h; change _ = _; exact h), fun _ _ _ _ h => by first | exact h | (change _ = _ at h; change _ = _; exact h), fun _ _ _ _ h => by first | exact h | (change _ = _ at h; change _ = _; exact h), fun _ _ _ _ h => by first | exact h | (change _ = _ at h; change _ = _; exact h), fun _ _ _ hE ⟨r_35, h0_, e⟩ => ⟨r_35, (hst37 r_35 _ _ hE h0_), e⟩, fun _ _ _ hE ⟨r_35, h0_, e⟩ => ⟨r_35, (hst37 r_35 _ _ hE h0_), e⟩, fun _ _ _ hE ⟨B_45, h0_, h1_, e⟩ => ⟨B_45, h0_, (h1_.ext hE), e⟩, trivial⟩ ⟨?_, ?_, ?_, ?_, ?_, ?_, ?_, ?_, ?_, ?_, ?_, trivial⟩ ?_
  · intro a w hT
    have hAp := hT.ag hA21 [(1, .pointer (some ⟨B_2, 0, none⟩))] ⟨rfl, trivial⟩ (by kernel_rfl)
    exact opk_val hAp rfl (r_fieldAddr (hAp.get rfl) Try.underlying26 rfl ti_3 (by decide)) fun _ _ e => ⟨_, e, Chg.refl _ _, fun _ => Eq.refl _⟩
  · intro a w hT
    have hAp := hT.ag hA21 [] trivial (by kernel_rfl)
    have e30 : a.tmps.getD 5 undef = .pointer (some ⟨B_2, 0, none⟩) := hT.vals 0 rfl 5 rfl
    have hAp := hAp.add e30
    exact opk_val hAp rfl (r_load1 Try.underlying3 rfl (hAp.get rfl) ((hB24.ext hT.chg).cell 0 _ rfl)) fun _ _ e => ⟨_, e, Chg.refl _ _, fun _ => Eq.refl _⟩
  · intro a w hT
    have hAp := hT.ag hA21 [(1, .pointer (some ⟨B_2, 0, none⟩))] ⟨rfl, trivial⟩ (by kernel_rfl)
    exact opk_val hAp rfl (r_fieldAddr (hAp.get rfl) Try.underlying26 rfl ti_9 (by decide)) fun _ _ e => ⟨_, e, Chg.refl _ _, fun _ => Eq.refl _⟩
  · intro a w hT
    have hAp := hT.ag hA21 [] trivial (by kernel_rfl)
    have e31 : a.tmps.getD 7 undef = .pointer (some ⟨B_2, 1, none⟩) := hT.vals 2 rfl 7 rfl
    have hAp := hAp.add e31
    exact opk_val hAp rfl (r_load1 Try.underlying9 rfl (hAp.get rfl) ((hB24.ext hT.chg).cell 1 _ rfl)) fun _ _ e => ⟨_, e, Chg.refl _ _, fun _ => Eq.refl _⟩
  · intro a w hT
    have hAp := hT.ag hA21 [(1, .pointer (some ⟨B_2, 0, none⟩))] ⟨rfl, trivial⟩ (by kernel_rfl)
    exact opk_val hAp rfl (r_fieldAddr (hAp.get rfl) Try.underlying26 rfl ti_9 (by decide)) fun _ _ e => ⟨_, e, Chg.refl _ _, fun _ => Eq.refl _⟩
  · intro a w hT
    have hAp := hT.ag hA21 [] trivial (by kernel_rfl)
    have e32 : a.tmps.getD 9 undef = .pointer (some ⟨B_2, 2, none⟩) := hT.vals 4 rfl 9 rfl
    have hAp := hAp.add e32
    exact opk_val hAp rfl (r_load1 Try.underlying9 rfl (hAp.get rfl) ((hB24.ext hT.chg).cell 2 _ rfl)) fun _ _ e => ⟨_, e, Chg.refl _ _, fun _ => Eq.refl _⟩
  · intro a w hT
    have hAp := hT.ag hA21 [(1, .pointer (some ⟨B_2, 0, none⟩))] ⟨rfl, trivial⟩ (by kernel_rfl)
    exact opk_val hAp rfl (r_fieldAddr (hAp.get rfl) Try.underlying26 rfl ti_23 (by decide)) fun _ _ e => ⟨_, e, Chg.refl _ _, fun _ => Eq.refl _⟩
  · intro a w hT
    have hAp := hT.ag hA21 [] trivial (by kernel_rfl)
    have e33 : a.tmps.getD 11 undef = .pointer (some ⟨B_2, 3, none⟩) := hT.vals 6 rfl 11 rfl
    have hAp := hAp.add e33
    exact opk_val hAp rfl (r_load1 Try.underlying23 rfl (hAp.get rfl) ((hB24.ext hT.chg).cell 3 _ rfl)) fun _ _ e => ⟨_, e, Chg.refl _ _, fun _ => Eq.refl _⟩
  · intro a w hT
    have hAp := hT.ag hA21 [] trivial (by kernel_rfl)
    have e34 : a.tmps.getD 12 undef = Sl.v t_1_Attrs := hT.vals 7 rfl 12 rfl
    have hAp := hAp.add e34
    exact opk_callX hAp rfl (r_call (args := #[Sl.v t_1_Attrs]) Try.func38 (by decide) rfl (map_arr (ml_cons (hAp.get rfl) ml_nil)) rfl) (hc38 w hT.chg) fun _ _ _ _ e ⟨hE, r_35, he, hV⟩ => ⟨_, e, hE, fun _ => ⟨r_35, hV, he⟩⟩
  · intro a w hT
    have hAp := hT.ag hA21 [] trivial (by kernel_rfl)
    have e40 : a.tmps.getD 6 undef = .int .i64 t_1_Kind := hT.vals 1 rfl 6 rfl
    have hAp := hAp.add e40
    have e41 : a.tmps.getD 8 undef = .string (Bs t_1_Name) := hT.vals 3 rfl 8 rfl
    have hAp := hAp.add e41
    have e42 : a.tmps.getD 10 undef = .string (Bs t_1_Text) := hT.vals 5 rfl 10 rfl
    have hAp := hAp.add e42
    obtain ⟨r_35, hf44, e43⟩ := hT.vals 8 rfl 13 rfl
    have hAp := hAp.add e43
    exact opk_val hAp rfl (r_build (vs := #[(0, .int .i64 t_1_Kind), (1, .string (Bs t_1_Name)), (2, .string (Bs t_1_Text)), (3, Sl.v r_35)]) (cells := #[.int .i64 t_1_Kind, .string (Bs t_1_Name), .string (Bs t_1_Text), Sl.v r_35, Sl.v Sl.nil]) (map_arr2 (ml2_cons (hAp.get rfl) (ml2_cons (hAp.get rfl) (ml2_cons (hAp.get rfl) (ml2_cons (hAp.get rfl) (ml2_nil)))))) ti_26 Try.underlying26 pl_26 (by kernel_rfl)) fun _ _ e => ⟨_, e, Chg.refl _ _, fun _ => ⟨r_35, hf44, rfl⟩⟩
  · intro a w hT
    have hAp := hT.ag hA21 [] trivial (by kernel_rfl)
    exact opk_new (fun B => .pointer (some ⟨B, 0, none⟩)) hAp rfl (r_alloc (cs := [.int .i64 0, .string (Bs ([] : Str)), .string (Bs ([] : Str)), Sl.v Sl.nil, Sl.v Sl.nil]) ti_26 rfl) fun _ w46 B_45 hE47 hN48 hB49 _ e => ⟨_, e, hE47, fun _ => ⟨B_45, Nat.le_trans hT.chg.size hN48.ge, hB49, rfl⟩⟩
  · intro a50 w51 hE52 hag53 hv54
    have hA50 := hag53 [(1, .pointer (some ⟨B_2, 0, none⟩)), (2, .pointer (some ⟨B_10, 0, none⟩))] ⟨rfl, rfl, trivial⟩ (by kernel_rfl)
    obtain ⟨r_35, hf58, e56⟩ := hv54 9 rfl 14 rfl
    have hA57 := hA50.add e56
    obtain ⟨B_45, hf61, hf62, e59⟩ := hv54 10 rfl 3 rfl
    have hA60 := hA57.add e59
    have hB63 := hB24.ext hE52
    have hB64 := hB25.ext hE52
    have hC65 : Chg [] w22 w51 := hE52
    have ht66 := ht39 w51 r_35 B_45 hE52 hf58 hf61 hf62
    have hne67 : B_2 ≠ B_45 := Nat.ne_of_lt (Nat.lt_of_lt_of_le hB24.lt hf61)
    have hne68 : B_10 ≠ B_45 := Nat.ne_of_lt (Nat.lt_of_lt_of_le hB25.lt hf61)
    refine one (D := [[], [0], [], [2], [], [4], [], [6], [6, 7], [0, 1, 2, 3, 4, 5, 6, 7, 8], [], [0, 1, 2, 3, 4, 5, 6, 7, 8, 9, 10]]) (i := 11) rfl (by kernel_rfl) (opk_store hA60 hf62 (r_store (vs := [.int .i64 t_1_Kind, .string (Bs t_1_Name), .string (Bs t_1_Text), Sl.v r_35, Sl.v Sl.nil]) (hA60.get rfl) (hA60.get rfl) rfl ti_26 hf62 rfl (ones_all [.int .i64 t_1_Kind, .string (Bs t_1_Name), .string (Bs t_1_Text), Sl.v r_35, Sl.v Sl.nil] rfl)) fun a70 w69 hS71 hB72 hA70 => ?_)
    have hB73 : Box w69 B_45 26 [.int .i64 t_1_Kind, .string (Bs t_1_Name), .string (Bs t_1_Text), Sl.v r_35, Sl.v Sl.nil] := hB72
    have hB74 := hB63.keep hS71 (by simpa using hne67)
    have hB75 := hB64.keep hS71 (by simpa using hne68)
    have hC76 : Chg [B_45] w51 w69 := hS71
    refine PR_end (by kernel_rfl) ?_
    have hA77 := hA70.keep [(1, .pointer (some ⟨B_2, 0, none⟩)), (2, .pointer (some ⟨B_10, 0, none⟩)), (3, .pointer (some ⟨B_45, 0, none⟩))] ⟨rfl, rfl, rfl, trivial⟩
    refine then_normal ?_
    refine wp_seq ?_
    refine wp_seq ?_
    refine wp_region_lit ?_
    refine sq (opk_val hA77 rfl (r_assign rfl) fun a78 hA78 _ => ?_)
    refine sq_end ?_
    have hA79 := hA78.keep [(1, .pointer (some ⟨B_2, 0, none⟩)), (2, .pointer (some ⟨B_10, 0, none⟩)), (3, .pointer (some ⟨B_45, 0, none⟩)), (4, .int .i64 0)] ⟨rfl, rfl, rfl, rfl, trivial⟩
    refine then_normal ?_
    refine wp_block ?_
    have ht295 := ht66 w69    hC76
    obtain ⟨J_190, mu_191, h0301, ht300⟩ := ht295
    refine wp_loop_st (σ := Int × Sl × World) (fun s a w => Ag 34 a [(1, .pointer (some ⟨B_2, 0, none⟩)), (2, .pointer (some ⟨B_10, 0, none⟩)), (3, .pointer (some ⟨B_45, 0, none⟩)), (4, .int .i64 s.1)] ∧ Box w B_2 26 [.int .i64 t_1_Kind, .string (Bs t_1_Name), .string (Bs t_1_Text), Sl.v t_1_Attrs, Sl.v t_1_Kids] ∧ Box w B_10 26 [.int .i64 0, .string (Bs ([] : Str)), .string (Bs ([] : Str)), Sl.v Sl.nil, Sl.v Sl.nil] ∧ Box w B_45 26 [.int .i64 t_1_Kind, .string (Bs t_1_Name), .string (Bs t_1_Text), Sl.v r_35, Sl.v s.2.1] ∧ w = s.2.2 ∧ J_190 s.1 s.2.1 s.2.2) (fun s => mu_191 s.1 s.2.1 s.2.2) (0, Sl.nil, w69) ⟨hA79.keep [(1, .pointer (some ⟨B_2, 0, none⟩)), (2, .pointer (some ⟨B_10, 0, none⟩)), (3, .pointer (some ⟨B_45, 0, none⟩)), (4, .int .i64 0)] ⟨rfl, rfl, rfl, rfl, trivial⟩, hB74, hB75, hB73, rfl, h0301⟩ ?_
    rintro ⟨i_187, c_188, w189⟩ a296 w_ ⟨hA296, hB297, hB298, hB299, hw_, hJ303⟩
    have hw_ : w189 = w_ := hw_.symm
    subst hw_
    have ht302 := ht300 i_187 c_188 _ hJ303
    refine wp_seq ?_
    refine wp_seq ?_
    refine wp_region_lit ?_
    refine sq (opk_val hA296 rfl (r_move (hA296.get rfl)) fun a304 hA304 _ => ?_)
    refine sq (opk_val hA304 rfl (r_fieldAddr (hA304.get rfl) Try.underlying26 rfl ti_24 (by decide)) fun a305 hA305 _ => ?_)
    refine sq (opk_val hA305 rfl (r_load1 Try.underlying24 rfl (hA305.get rfl) (hB297.cell 4 _ rfl)) fun a306 hA306 _ => ?_)
    refine sq (opk_val hA306 rfl (r_len (hA306.get rfl) Try.underlying24) fun a307 hA307 _ => ?_)
    refine sq (opk_val hA307 rfl (r_lss (hA307.get rfl) (hA307.get rfl)) fun a308 hA308 _ => ?_)
    refine sq_end ?_
    have hA309 := hA308.keep [(1, .pointer (some ⟨B_2, 0, none⟩)), (2, .pointer (some ⟨B_10, 0, none⟩)), (3, .pointer (some ⟨B_45, 0, none⟩)), (4, .int .i64 i_187), (19, .bool (decide (i_187 < (t_1_Kids.n : Int))))] ⟨rfl, rfl, rfl, rfl, rfl, trivial⟩
    refine then_normal ?_
    refine wp_cond_split (hA309.get rfl) (fun hc => ?_) (fun hc => ?_)
    · have ht310 := ht302.1 (of_decide_eq_true hc)
      clear hc
      refine wp_skip ?_
      refine then_normal ?_
      refine wp_seq ?_
      refine wp_block ?_
      refine draw' (by kernel_rfl) fun w312 hE313 => ?_
      have hB314 := hB297.ext hE313
      have hB315 := hB298.ext hE313
      have hB316 := hB299.ext hE313
      have hC317 : Chg [] w189 w312 := hE313
      have ht318 := ht310 w312    hC317
      obtain ⟨p_323, hp324, ht325⟩ := ht318
      obtain ⟨x_327_Kind, x_327_Name, x_327_Text, x_327_Attrs, x_327_Kids, hx328, ht329⟩ := ht325
      obtain ⟨V_332, hst333, hc334, ht335⟩ := ht329
      refine par (D := [[], [0], [], [2], [], [2, 3, 4], [2, 3, 4, 5], [2, 3, 4, 5, 6], [2, 3, 4, 5, 6, 7], [0, 1, 2, 3, 4, 5, 6, 7, 8], [0, 1, 2, 3, 4, 5, 6, 7, 8, 9], [0, 1, 2, 3, 4, 5, 6, 7, 8, 9, 10]]) (S := [0, 1, 2, 3, 4, 5, 6, 7, 8]) (F := []) (V := VL [(0, fun v _ => v = .pointer (some ⟨B_45, 4, none⟩)), (1, fun v _ => v = Sl.v c_188), (2, fun v _ => v = .pointer (some ⟨B_2, 4, none⟩)), (3, fun v _ => v = Sl.v t_1_Kids), (4, fun v _ => v = .int .i64 i_187), (5, fun v _ => v = .pointer (some (p_323.add (i_187.toNat * 5)))), (6, fun v _ => v = .agg #[.int .i64 x_327_Kind, .string (Bs x_327_Name), .string (Bs x_327_Text), Sl.v x_327_Attrs, Sl.v x_327_Kids]), (7, fun v w' => ∃ r_331_Kind : Int, ∃ r_331_Name : Str, ∃ r_331_Text : Str, ∃ r_331_Attrs : Sl, ∃ r_331_Kids : Sl, V_332 r_331_Kind r_331_Name r_331_Text r_331_Attrs r_331_Kids w' ∧ v = .agg #[.int .i64 r_331_Kind, .string (Bs r_331_Name), .string (Bs r_331_Text), Sl.v r_331_Attrs, Sl.v r_331_Kids]), (8, fun v w' => ∃ r_331_Kind : Int, ∃ r_331_Name : Str, ∃ r_331_Text : Str, ∃ r_331_Attrs : Sl, ∃ r_331_Kids : Sl, ∃ B_338 : Nat, V_332 r_331_Kind r_331_Name r_331_Text r_331_Attrs r_331_Kids w' ∧ w312.heap.size ≤ B_338 ∧ Box w' B_338 26 [.int .i64 r_331_Kind, .string (Bs r_331_Name), .string (Bs r_331_Text), Sl.v r_331_Attrs, Sl.v r_331_Kids] ∧ v = Sl.v (Sl.mk (some ⟨B_338, 0, none⟩) 1 1))]) hA309 (by kernel_rfl) ⟨fun _ _ _ _ h => by first | exact h | (change _ = _ at h; change _ = _; exact h), fun _ _ _ _ h => by first | exact h | (change _ = _ at h; change _ = _; exact h), fun _ _ _ _ h => by first | exact h | (change _ = _ at h; change _ = _; exact h), fun _ _ _ _ h => by first | exact h | (change _ = _ at h; change _ = _; exact h), fun _ _ _ _ h => by first | exact h | (change _ = _ at h; change _ = _; exact h), fun _ _ _ _ h => by first | exact h | (change _ = _ at h; change _ = _; exact h), fun _ _ _ _ h => by first | exact h | (change _ = _ at h; change _ = _; exact h), fun _ _ _ hE ⟨r_331_Kind, r_331_Name, r_331_Text, r_331_Attrs, r_331_Kids, h0_, e⟩ => ⟨r_331_Kind, r_331_Name, r_331_Text, r_331_Attrs, r_331_Kids, (hst333 r_331_Kind r_331_Name r_331_Text r_331_Attrs r_331_Kids _ _ hE h0_), e⟩, fun _ _ _ hE ⟨r_331_Kind, r_331_Name, r_331_Text, r_331_Attrs, r_331_Kids, B_338, h0_, h1_, h2_, e⟩ => ⟨r_331_Kind, r_331_Name, r_331_Text, r_331_Attrs, r_331_Kids, B_338, (hst333 r_331_Kind r_331_Name r_331_Text r_331_Attrs r_331_Kids _ _ hE h0_), h1_, (h2_.ext hE), e⟩, trivial⟩ ⟨?_, ?_, ?_, ?_, ?_, ?_, ?_, ?_, ?_, trivial⟩ ?_
      · intro a w hT
        have hAp := hT.ag hA309 [(3, .pointer (some ⟨B_45, 0, none⟩))] ⟨rfl, trivial⟩ (by kernel_rfl)
        exact opk_val hAp rfl (r_fieldAddr (hAp.get rfl) Try.underlying26 rfl ti_24 (by decide)) fun _ _ e => ⟨_, e, Chg.refl _ _, fun _ => Eq.refl _⟩
      · intro a w hT
        have hAp := hT.ag hA309 [] trivial (by kernel_rfl)
        have e319 : a.tmps.getD 22 undef = .pointer (some ⟨B_45, 4, none⟩) := hT.vals 0 rfl 22 rfl
        have hAp := hAp.add e319
        exact opk_val hAp rfl (r_load1 Try.underlying24 rfl (hAp.get rfl) ((hB316.ext hT.chg).cell 4 _ rfl)) fun _ _ e => ⟨_, e, Chg.refl _ _, fun _ => Eq.refl _⟩
      · intro a w hT
        have hAp := hT.ag hA309 [(1, .pointer (some ⟨B_2, 0, none⟩))] ⟨rfl, trivial⟩ (by kernel_rfl)
        exact opk_val hAp rfl (r_fieldAddr (hAp.get rfl) Try.underlying26 rfl ti_24 (by decide)) fun _ _ e => ⟨_, e, Chg.refl _ _, fun _ => Eq.refl _⟩
      · intro a w hT
        have hAp := hT.ag hA309 [] trivial (by kernel_rfl)
        have e320 : a.tmps.getD 24 undef = .pointer (some ⟨B_2, 4, none⟩) := hT.vals 2 rfl 24 rfl
        have hAp := hAp.add e320
        exact opk_val hAp rfl (r_load1 Try.underlying24 rfl (hAp.get rfl) ((hB314.ext hT.chg).cell 4 _ rfl)) fun _ _ e => ⟨_, e, Chg.refl _ _, fun _ => Eq.refl _⟩
      · intro a w hT
        have hAp := hT.ag hA309 [(4, .int .i64 i_187)] ⟨rfl, trivial⟩ (by kernel_rfl)
        exact opk_val hAp rfl (r_move (hAp.get rfl)) fun _ _ e => ⟨_, e, Chg.refl _ _, fun _ => Eq.refl _⟩
      · intro a w hT
        have hAp := hT.ag hA309 [] trivial (by kernel_rfl)
        have e321 : a.tmps.getD 25 undef = Sl.v t_1_Kids := hT.vals 3 rfl 25 rfl
        have hAp := hAp.add e321
        have e322 : a.tmps.getD 26 undef = .int .i64 i_187 := hT.vals 4 rfl 26 rfl
        have hAp := hAp.add e322
        exact opk_val hAp rfl (r_indexAddr (hAp.get rfl) (hAp.get rfl) Try.underlying24 ti_26 hp324.1 hp324.2) fun _ _ e => ⟨_, e, Chg.refl _ _, fun _ => Eq.refl _⟩
      · intro a w hT
        have hAp := hT.ag hA309 [] trivial (by kernel_rfl)
        have e326 : a.tmps.getD 27 undef = .pointer (some (p_323.add (i_187.toNat * 5))) := hT.vals 5 rfl 27 rfl
        have hAp := hAp.add e326
        exact opk_val hAp rfl (r_loadN Try.underlying26 rfl ti_26 (hAp.get rfl) (hx328.ext hT.chg)) fun _ _ e => ⟨_, e, Chg.refl _ _, fun _ => Eq.refl _⟩
      · intro a w hT
        have hAp := hT.ag hA309 [] trivial (by kernel_rfl)
        have e330 : a.tmps.getD 28 undef = .agg #[.int .i64 x_327_Kind, .string (Bs x_327_Name), .string (Bs x_327_Text), Sl.v x_327_Attrs, Sl.v x_327_Kids] := hT.vals 6 rfl 28 rfl
        have hAp := hAp.add e330
        exact opk_callX hAp rfl (r_call (args := #[.agg #[.int .i64 x_327_Kind, .string (Bs x_327_Name), .string (Bs x_327_Text), Sl.v x_327_Attrs, Sl.v x_327_Kids]]) Try.func13 (by decide) rfl (map_arr (ml_cons (hAp.get rfl) ml_nil)) rfl) (hc334 w hT.chg) fun _ _ _ _ e ⟨hE, r_331_Kind, r_331_Name, r_331_Text, r_331_Attrs, r_331_Kids, he, hV⟩ => ⟨_, e, hE, fun _ => ⟨r_331_Kind, r_331_Name, r_331_Text, r_331_Attrs, r_331_Kids, hV, he⟩⟩
      · intro a w hT
        have hAp := hT.ag hA309 [] trivial (by kernel_rfl)
        obtain ⟨r_331_Kind, r_331_Name, r_331_Text, r_331_Attrs, r_331_Kids, hf337, e336⟩ := hT.vals 7 rfl 29 rfl
        have hAp := hAp.add e336
        exact opk_new (fun B => .slice (some ⟨B, 0, none⟩) 1 1) hAp rfl (r_buildSlice (vs := #[(0, .agg #[.int .i64 r_331_Kind, .string (Bs r_331_Name), .string (Bs r_331_Text), Sl.v r_331_Attrs, Sl.v r_331_Kids])]) (cs := [.int .i64 r_331_Kind, .string (Bs r_331_Name), .string (Bs r_331_Text), Sl.v r_331_Attrs, Sl.v r_331_Kids]) (map_arr2 (ml2_cons (hAp.get rfl) (ml2_nil))) Try.underlying24 ti_26 rfl rfl (by kernel_rfl)) fun _ w339 B_338 hE340 hN341 hB342 _ e => ⟨_, e, hE340, fun _ => ⟨r_331_Kind, r_331_Name, r_331_Text, r_331_Attrs, r_331_Kids, B_338, (hst333 r_331_Kind r_331_Name r_331_Text r_331_Attrs r_331_Kids _ _ hE340 hf337), Nat.le_trans hT.chg.size hN341.ge, hB342, rfl⟩⟩
      · intro a343 w344 hE345 hag346 hv347
        have hA343 := hag346 [(1, .pointer (some ⟨B_2, 0, none⟩)), (2, .pointer (some ⟨B_10, 0, none⟩)), (3, .pointer (some ⟨B_45, 0, none⟩)), (4, .int .i64 i_187)] ⟨rfl, rfl, rfl, rfl, trivial⟩ (by kernel_rfl)
        have e349 : a343.tmps.getD 23 undef = Sl.v c_188 := hv347 1 rfl 23 rfl
        have hA350 := hA343.add e349
        obtain ⟨r_331_Kind, r_331_Name, r_331_Text, r_331_Attrs, r_331_Kids, B_338, hf353, hf354, hf355, e351⟩ := hv347 8 rfl 30 rfl
        have hA352 := hA350.add e351
        have hB356 := hB314.ext hE345
        have hB357 := hB315.ext hE345
        have hB358 := hB316.ext hE345
        have hC359 : Chg [] w312 w344 := hE345
        have ht360 := ht335 w344 r_331_Kind r_331_Name r_331_Text r_331_Attrs r_331_Kids B_338 hE345 hf353 hf354 hf355
        have hne361 : B_2 ≠ B_338 := Nat.ne_of_lt (Nat.lt_of_lt_of_le hB314.lt hf354)
        have hne362 : B_10 ≠ B_338 := Nat.ne_of_lt (Nat.lt_of_lt_of_le hB315.lt hf354)
        have hne363 : B_45 ≠ B_338 := Nat.ne_of_lt (Nat.lt_of_lt_of_le hB316.lt hf354)
        have ht364 := ht360 hf355
        refine one (D := [[], [0], [], [2], [], [2, 3, 4], [2, 3, 4, 5], [2, 3, 4, 5, 6], [2, 3, 4, 5, 6, 7], [0, 1, 2, 3, 4, 5, 6, 7, 8], [0, 1, 2, 3, 4, 5, 6, 7, 8, 9], [0, 1, 2, 3, 4, 5, 6, 7, 8, 9, 10]]) (i := 9) rfl (by kernel_rfl) (opk_run hA352 rfl (fun _ _ hr => r_append (hA352.get rfl) (hA352.get rfl) hr) ht364 fun a365 v371 w366 hA365 _ hn368 hz369 hK370 => ?_)
        obtain ⟨r_372, rfl, ht367⟩ := hK370
        have hB373 := hB356.kept hn368 (.head _)
        have hB374 := hB357.kept hn368 (.tail _ (.head _))
        have hB375 := hB358.kept hn368 (.tail _ (.tail _ (.head _)))
        refine par (D := [[], [0], [], [2], [], [2, 3, 4], [2, 3, 4, 5], [2, 3, 4, 5, 6], [2, 3, 4, 5, 6, 7], [0, 1, 2, 3, 4, 5, 6, 7, 8], [0, 1, 2, 3, 4, 5, 6, 7, 8, 9], [0, 1, 2, 3, 4, 5, 6, 7, 8, 9, 10]]) (S := [10]) (F := []) (V := VL [(10, fun v _ => v = .pointer (some ⟨B_45, 4, none⟩))]) hA365 (by kernel_rfl) ⟨fun _ _ _ _ h => by first | exact h | (change _ = _ at h; change _ = _; exact h), trivial⟩ ⟨?_, trivial⟩ ?_
        · intro a w hT
          have hAp := hT.ag hA365 [(3, .pointer (some ⟨B_45, 0, none⟩))] ⟨rfl, trivial⟩ (by kernel_rfl)
          exact opk_val hAp rfl (r_fieldAddr (hAp.get rfl) Try.underlying26 rfl ti_24 (by decide)) fun _ _ e => ⟨_, e, Chg.refl _ _, fun _ => Eq.refl _⟩
        · intro a376 w377 hE378 hag379 hv380
          have hA376 := hag379 [(1, .pointer (some ⟨B_2, 0, none⟩)), (2, .pointer (some ⟨B_10, 0, none⟩)), (3, .pointer (some ⟨B_45, 0, none⟩)), (4, .int .i64 i_187), (31, Sl.v r_372)] ⟨rfl, rfl, rfl, rfl, rfl, trivial⟩ (by kernel_rfl)
          have e382 : a376.tmps.getD 32 undef = .pointer (some ⟨B_45, 4, none⟩) := hv380 10 rfl 32 rfl
          have hA383 := hA376.add e382
          have hB384 := hB373.ext hE378
          have hB385 := hB374.ext hE378
          have hB386 := hB375.ext hE378
          have hC387 : Chg [] w366 w377 := hE378
          refine one (D := [[], [0], [], [2], [], [2, 3, 4], [2, 3, 4, 5], [2, 3, 4, 5, 6], [2, 3, 4, 5, 6, 7], [0, 1, 2, 3, 4, 5, 6, 7, 8], [0, 1, 2, 3, 4, 5, 6, 7, 8, 9], [0, 1, 2, 3, 4, 5, 6, 7, 8, 9, 10]]) (i := 11) rfl (by kernel_rfl) (opk_store hA383 hB386 (r_store (vs := [Sl.v r_372]) (hA383.get rfl) (hA383.get rfl) rfl ti_24 hB386 rfl (ones_all [Sl.v r_372] rfl)) fun a389 w388 hS390 hB391 hA389 => ?_)
          have hB392 : Box w388 B_45 26 [.int .i64 t_1_Kind, .string (Bs t_1_Name), .string (Bs t_1_Text), Sl.v r_35, Sl.v r_372] := hB391
          have hB393 := hB384.keep hS390 (by simpa using hne67)
          have hB394 := hB385.keep hS390 (by simpa using hne68)
          have hC395 := hC387.storeOld hS390
          refine PR_end (by kernel_rfl) ?_
          have hA396 := hA389.keep [(1, .pointer (some ⟨B_2, 0, none⟩)), (2, .pointer (some ⟨B_10, 0, none⟩)), (3, .pointer (some ⟨B_45, 0, none⟩)), (4, .int .i64 i_187)] ⟨rfl, rfl, rfl, rfl, trivial⟩
          refine block_normal ?_
          refine then_normal ?_
          refine wp_region_lit ?_
          refine sq (opk_val hA396 rfl (r_move (hA396.get rfl)) fun a397 hA397 _ => ?_)
          obtain ⟨hS399, ht400⟩ := ht367
          refine sq (opk_val hA397 rfl (r_addI (hA397.get rfl) rfl hS399) fun a398 hA398 _ => ?_)
          refine sq (opk_val hA398 rfl (r_assign (hA398.get rfl)) fun a401 hA401 _ => ?_)
          refine sq_end ?_
          have hA402 := hA401.keep [(1, .pointer (some ⟨B_2, 0, none⟩)), (2, .pointer (some ⟨B_10, 0, none⟩)), (3, .pointer (some ⟨B_45, 0, none⟩)), (4, .int .i64 (i_187 + 1))] ⟨rfl, rfl, rfl, rfl, trivial⟩
          have ht403 := ht400 w388    hC395
          have hA404 := hA402.keep [(1, .pointer (some ⟨B_2, 0, none⟩)), (2, .pointer (some ⟨B_10, 0, none⟩)), (3, .pointer (some ⟨B_45, 0, none⟩)), (4, .int .i64 (i_187 + 1))] ⟨rfl, rfl, rfl, rfl, trivial⟩
          exact then_normal ⟨(i_187 + 1, r_372, w388), ⟨hA404, hB393, hB394, hB392, rfl, ht403.1⟩, ht403.2⟩
    · have ht311 := ht302.2 (of_decide_eq_false hc)
      clear hc
      refine wp_exit ?_
      refine then_exit ?_
      refine then_exit ?_
      refine block_hit ?_
      have hA405 := hA309.keep [(2, .pointer (some ⟨B_10, 0, none⟩)), (3, .pointer (some ⟨B_45, 0, none⟩))] ⟨rfl, rfl, trivial⟩
      refine then_normal ?_
      refine wp_seq ?_
      refine wp_region_lit ?_
      refine sq (opk_val hA405 rfl (r_loadN (cs := [.int .i64 t_1_Kind, .string (Bs t_1_Name), .string (Bs t_1_Text), Sl.v r_35, Sl.v c_188]) Try.underlying26 rfl ti_26 (hA405.get rfl) (hB299.part 0 _ rfl)) fun a406 hA406 _ => ?_)
      refine sq (opk_store hA406 hB298 (r_store (vs := [.int .i64 t_1_Kind, .string (Bs t_1_Name), .string (Bs t_1_Text), Sl.v r_35, Sl.v c_188]) (hA406.get rfl) (hA406.get rfl) rfl ti_26 hB298 rfl (ones_all [.int .i64 t_1_Kind, .string (Bs t_1_Name), .string (Bs t_1_Text), Sl.v r_35, Sl.v c_188] rfl)) fun a408 w407 hS409 hB410 hA408 => ?_)
      have hB411 : Box w407 B_10 26 [.int .i64 t_1_Kind, .string (Bs t_1_Name), .string (Bs t_1_Text), Sl.v r_35, Sl.v c_188] := hB410
      have hB412 := hB299.keep hS409 (by simpa using hne68.symm)
      have hC413 : Chg [B_10] w189 w407 := hS409
      refine sq_end ?_
      have hA414 := hA408.keep [(2, .pointer (some ⟨B_10, 0, none⟩))] ⟨rfl, trivial⟩
      refine then_normal ?_
      refine wp_ret ?_
      have ht415 := ht311 w407    hC413
      exact res_all (vs := [.agg #[.int .i64 t_1_Kind, .string (Bs t_1_Name), .string (Bs t_1_Text), Sl.v r_35, Sl.v c_188]]) rfl hA414 ⟨res_of_cell hA414 rfl hB411 Try.underlying26 rfl ti_26, trivial⟩ ht415

/-- The condition of topiary/topiarylaw00.Place. -/
def law00_Place.vc (v_1 : Int) (n_2 : Int) (R : Value → World → Prop) (w : World) : Prop :=
(n_2 ≠ 0) ∧
(((v_1.tmod n_2) < 0) →
(I64 ((v_1.tmod n_2) + n_2)) ∧
R (.int .i64 ((v_1.tmod n_2) + n_2)) w) ∧
((¬ ((v_1.tmod n_2) < 0)) →
R (.int .i64 (v_1.tmod n_2)) w)
set_option maxHeartbeats 1000000 in
set_option maxRecDepth 10000 in
theorem law00_Place.ok (v_1 : Int) (n_2 : Int) {R : Value → World → Prop} {w : World} (ht0 : law00_Place.vc v_1 n_2 R w) : Calls Try.prog 14 #[.int .i64 v_1, .int .i64 n_2] w (Ret R) := by
  refine enter [.int .i64 v_1, .int .i64 n_2] Try.func14 rfl Try.ntmps14 rfl ?_
  intro a0 hA0
  unfold law00_Place.vc at ht0
  refine wp_seq ?_
  refine wp_region_lit ?_
  refine sq (opk_val hA0 rfl (r_assign rfl) fun a3 hA3 _ => ?_)
  refine sq_end ?_
  have hA4 := hA3.keep [(0, .int .i64 v_1), (1, .int .i64 n_2)] ⟨rfl, rfl, trivial⟩
  refine then_normal ?_
  refine wp_seq ?_
  refine wp_region_lit ?_
  refine sq (opk_val hA4 rfl (r_move (hA4.get rfl)) fun a5 hA5 _ => ?_)
  refine sq (opk_val hA5 rfl (r_move (hA5.get rfl)) fun a6 hA6 _ => ?_)
  obtain ⟨hS8, ht9⟩ := ht0
  refine sq (opk_val hA6 rfl (r_rem (hA6.get rfl) (hA6.get rfl) hS8) fun a7 hA7 _ => ?_)
  refine sq (opk_val hA7 rfl (r_assign (hA7.get rfl)) fun a10 hA10 _ => ?_)
  refine sq_end ?_
  have hA11 := hA10.keep [(1, .int .i64 n_2), (5, .int .i64 (v_1.tmod n_2))] ⟨rfl, rfl, trivial⟩
  refine then_normal ?_
  refine wp_seq ?_
  refine wp_seq ?_
  refine wp_region_lit ?_
  refine sq (opk_val hA11 rfl (r_move (hA11.get rfl)) fun a12 hA12 _ => ?_)
  refine sq (opk_val hA12 rfl (r_lss (hA12.get rfl) rfl) fun a13 hA13 _ => ?_)
  refine sq_end ?_
  have hA14 := hA13.keep [(1, .int .i64 n_2), (5, .int .i64 (v_1.tmod n_2)), (10, .bool (decide ((v_1.tmod n_2) < 0)))] ⟨rfl, rfl, rfl, trivial⟩
  refine then_normal ?_
  refine wp_cond_split (hA14.get rfl) (fun hc => ?_) (fun hc => ?_)
  · have ht15 := ht9.1 (of_decide_eq_true hc)
    clear hc
    refine wp_region_lit ?_
    refine sq (opk_val hA14 rfl (r_move (hA14.get rfl)) fun a17 hA17 _ => ?_)
    refine sq (opk_val hA17 rfl (r_move (hA17.get rfl)) fun a18 hA18 _ => ?_)
    obtain ⟨hS20, ht21⟩ := ht15
    refine sq (opk_val hA18 rfl (r_addI (hA18.get rfl) (hA18.get rfl) hS20) fun a19 hA19 _ => ?_)
    refine sq (opk_val hA19 rfl (r_assign (hA19.get rfl)) fun a22 hA22 _ => ?_)
    refine sq_end ?_
    have hA23 := hA22.keep [(5, .int .i64 ((v_1.tmod n_2) + n_2))] ⟨rfl, trivial⟩
    refine then_normal ?_
    refine wp_seq ?_
    refine wp_region_lit ?_
    refine sq (opk_val hA23 rfl (r_move (hA23.get rfl)) fun a24 hA24 _ => ?_)
    refine sq (opk_val hA24 rfl (r_assign (hA24.get rfl)) fun a25 hA25 _ => ?_)
    refine sq_end ?_
    have hA26 := hA25.keep [(4, .int .i64 ((v_1.tmod n_2) + n_2))] ⟨rfl, trivial⟩
    refine then_normal ?_
    refine wp_ret ?_
    exact res_all (vs := [.int .i64 ((v_1.tmod n_2) + n_2)]) rfl hA26 ⟨res_of_tmp hA26 rfl, trivial⟩ ht21
  · have ht16 := ht9.2 (of_decide_eq_false hc)
    clear hc
    refine wp_skip ?_
    refine then_normal ?_
    refine wp_seq ?_
    refine wp_region_lit ?_
    refine sq (opk_val hA14 rfl (r_move (hA14.get rfl)) fun a27 hA27 _ => ?_)
    refine sq (opk_val hA27 rfl (r_assign (hA27.get rfl)) fun a28 hA28 _ => ?_)
    refine sq_end ?_
    have hA29 := hA28.keep [(4, .int .i64 (v_1.tmod n_2))] ⟨rfl, trivial⟩
    refine then_normal ?_
    refine wp_ret ?_
    exact res_all (vs := [.int .i64 (v_1.tmod n_2)]) rfl hA29 ⟨res_of_tmp hA29 rfl, trivial⟩ ht16

/-- The condition of topiary/topiarylaw05.awake. -/
def law05_awake.vc  (R : Value → World → Prop) (w : World) : Prop :=
∀ (w24 : World) (B_4 : Nat) (B_13 : Nat), New w B_4 w24 → New w B_13 w24 → B_4 ≠ B_13 → Chg [] w w24 →
∀ (_ : Box w24 B_4 26 [.int .i64 3, .string (Bs ([] : Str)), .string (Bs ([97] : Str)), Sl.v Sl.nil, Sl.v Sl.nil]),
CallK Try.prog 12 #[.agg #[.int .i64 1, .string (Bs ([] : Str)), .string (Bs ([] : Str)), Sl.v Sl.nil, Sl.v (Sl.mk (some ⟨B_4, 0, none⟩) 1 1)]] w24 [B_13] (fun v w39 => ∃ (r_37 : Bool), v = .bool r_37 ∧
∃ (r_48 : Int), (((r_37 = true)) → Calls Try.prog 21 #[.agg #[.int .i64 1, .string (Bs ([] : Str)), .string (Bs ([] : Str)), Sl.v Sl.nil, Sl.v (Sl.mk (some ⟨B_4, 0, none⟩) 1 1)]] w39 (Ret fun v w' => Ext w39 w' ∧ v = .int .i64 r_48)) ∧
(∀ w50 : World, Ext w39 w50 →
∃ (r_61 : Int), ((((r_37 = true) ∧ (r_48 = 2))) → Calls Try.prog 18 #[.agg #[.int .i64 1, .string (Bs ([] : Str)), .string (Bs ([] : Str)), Sl.v Sl.nil, Sl.v (Sl.mk (some ⟨B_4, 0, none⟩) 1 1)]] w50 (Ret fun v w' => Ext w50 w' ∧ v = .int .i64 r_61)) ∧
(∀ w63 : World, Ext w50 w63 →
∃ p_75 : Addr, (((((r_37 = true) ∧ (r_48 = 2)) ∧ (r_61 = 2))) → ((0 : Int) ≤ 0 ∧ 0 < ((Sl.mk (some ⟨B_4, 0, none⟩) 1 1).n : Int)) ∧  (Sl.mk (some ⟨B_4, 0, none⟩) 1 1).a = some p_75) ∧
∃ (x_81_Kind : Int) (x_81_Name : Str) (x_81_Text : Str) (x_81_Attrs : Sl) (x_81_Kids : Sl), (((((r_37 = true) ∧ (r_48 = 2)) ∧ (r_61 = 2))) → Cells w63 (p_75.add (0 * 5)) [.int .i64 x_81_Kind, .string (Bs x_81_Name), .string (Bs x_81_Text), Sl.v x_81_Attrs, Sl.v x_81_Kids]) ∧
∃ (r_84 : Bool), (((((r_37 = true) ∧ (r_48 = 2)) ∧ (r_61 = 2))) → Calls Try.prog 12 #[.agg #[.int .i64 x_81_Kind, .string (Bs x_81_Name), .string (Bs x_81_Text), Sl.v x_81_Attrs, Sl.v x_81_Kids]] w63 (Ret fun v w' => Ext w63 w' ∧ v = .bool r_84)) ∧
(∀ w86 : World, Ext w63 w86 →
R (.bool (((r_37 && (decide (r_48 = 2))) && (decide (r_61 = 2))) && (!r_84))) w86))))
set_option maxHeartbeats 1000000 in
set_option maxRecDepth 10000 in
theorem law05_awake.ok  {R : Value → World → Prop} {w : World} (ht0 : law05_awake.vc  R w) : Calls Try.prog 15 #[] w (Ret R) := by
  refine enter [] Try.func15 rfl Try.ntmps15 rfl ?_
  intro a0 hA0
  unfold law05_awake.vc at ht0
  refine wp_seq ?_
  refine wp_region_lit ?_
  refine sq (opk_val hA0 rfl (r_assign rfl) fun a1 hA1 _ => ?_)
  refine sq_end ?_
  have hA2 := hA1.keep [] trivial
  refine then_normal ?_
  refine wp_seq ?_
  refine wp_region_lit ?_
  refine sq (opk_val hA2 rfl (r_build (vs := #[(0, .int .i64 3), (2, .string (Bs ([97] : Str)))]) (cells := #[.int .i64 3, .string (Bs ([] : Str)), .string (Bs ([97] : Str)), Sl.v Sl.nil, Sl.v Sl.nil]) (map_arr2 (ml2_cons rfl (ml2_cons rfl (ml2_nil)))) ti_26 Try.underlying26 pl_26 (by kernel_rfl)) fun a3 hA3 _ => ?_)
  refine sq (opk_new (fun B => .slice (some ⟨B, 0, none⟩) 1 1) hA3 rfl (r_buildSlice (vs := #[(0, .agg #[.int .i64 3, .string (Bs ([] : Str)), .string (Bs ([97] : Str)), Sl.v Sl.nil, Sl.v Sl.nil])]) (cs := [.int .i64 3, .string (Bs ([] : Str)), .string (Bs ([97] : Str)), Sl.v Sl.nil, Sl.v Sl.nil]) (map_arr2 (ml2_cons (hA3.get rfl) (ml2_nil))) Try.underlying24 ti_26 rfl rfl (by kernel_rfl)) fun a6 w5 B_4 hE7 hN8 hB9 hA6 _ => ?_)
  have hN10 : New w B_4 w5 := hN8
  have hC11 : Chg [] w w5 := hE7
  refine sq (opk_val hA6 rfl (r_build (vs := #[(0, .int .i64 1), (4, Sl.v (Sl.mk (some ⟨B_4, 0, none⟩) 1 1))]) (cells := #[.int .i64 1, .string (Bs ([] : Str)), .string (Bs ([] : Str)), Sl.v Sl.nil, Sl.v (Sl.mk (some ⟨B_4, 0, none⟩) 1 1)]) (map_arr2 (ml2_cons rfl (ml2_cons (hA6.get rfl) (ml2_nil)))) ti_26 Try.underlying26 pl_26 (by kernel_rfl)) fun a12 hA12 _ => ?_)
  refine sq (opk_new (fun B => .pointer (some ⟨B, 0, none⟩)) hA12 rfl (r_alloc (cs := [.int .i64 0, .string (Bs ([] : Str)), .string (Bs ([] : Str)), Sl.v Sl.nil, Sl.v Sl.nil]) ti_26 rfl) fun a15 w14 B_13 hE16 hN17 hB18 hA15 _ => ?_)
  have hne19 : B_4 ≠ B_13 := Nat.ne_of_lt (Nat.lt_of_lt_of_le hB9.lt hN17.ge)
  have hN20 := New.of hC11 hN17
  have hB21 := hB9.ext hE16
  have hC22 := hC11.more hE16
  have hN23 := hN10.up hE16.size
  refine sq (opk_store hA15 hB18 (r_store (vs := [.int .i64 1, .string (Bs ([] : Str)), .string (Bs ([] : Str)), Sl.v Sl.nil, Sl.v (Sl.mk (some ⟨B_4, 0, none⟩) 1 1)]) (hA15.get rfl) (hA15.get rfl) rfl ti_26 hB18 rfl (ones_all [.int .i64 1, .string (Bs ([] : Str)), .string (Bs ([] : Str)), Sl.v Sl.nil, Sl.v (Sl.mk (some ⟨B_4, 0, none⟩) 1 1)] rfl)) fun a25 w24 hS26 hB27 hA25 => ?_)
  have hB28 : Box w24 B_13 26 [.int .i64 1, .string (Bs ([] : Str)), .string (Bs ([] : Str)), Sl.v Sl.nil, Sl.v (Sl.mk (some ⟨B_4, 0, none⟩) 1 1)] := hB27
  have hB29 := hB21.keep hS26 (by simpa using hne19)
  have hC30 := hC22.storeNew hN20 hS26
  have hN31 := hN23.up hS26.size
  have hN32 := hN20.up hS26.size
  refine sq_end ?_
  have hA33 := hA25.keep [(1, .pointer (some ⟨B_13, 0, none⟩))] ⟨rfl, trivial⟩
  refine then_normal ?_
  refine wp_seq ?_
  refine wp_region_lit ?_
  refine sq (opk_val hA33 rfl (r_loadN (cs := [.int .i64 1, .string (Bs ([] : Str)), .string (Bs ([] : Str)), Sl.v Sl.nil, Sl.v (Sl.mk (some ⟨B_4, 0, none⟩) 1 1)]) Try.underlying26 rfl ti_26 (hA33.get rfl) (hB28.part 0 _ rfl)) fun a34 hA34 _ => ?_)
  have ht35 := ht0 w24 B_4 B_13 hN31 hN32 hne19 hC30
  have ht36 := ht35 hB29
  refine sq (opk_call hA34 rfl (r_call (args := #[.agg #[.int .i64 1, .string (Bs ([] : Str)), .string (Bs ([] : Str)), Sl.v Sl.nil, Sl.v (Sl.mk (some ⟨B_4, 0, none⟩) 1 1)]]) Try.func12 (by decide) rfl (map_arr (ml_cons (hA34.get rfl) ml_nil)) rfl) ht36 fun a38 v44 w39 hA38 _ hn41 hz42 hK43 => ?_)
  obtain ⟨r_37, rfl, ht40⟩ := hK43
  have hB45 := hB28.kept hn41 (.head _)
  refine sq (opk_val hA38 rfl (r_move (hA38.get rfl)) fun a46 hA46 _ => ?_)
  refine sq (opk_gval hA46 rfl rfl (g := true) (e := r_37) rfl (fun hg => r_loadN (cs := [.int .i64 1, .string (Bs ([] : Str)), .string (Bs ([] : Str)), Sl.v Sl.nil, Sl.v (Sl.mk (some ⟨B_4, 0, none⟩) 1 1)]) Try.underlying26 rfl ti_26 (hA46.get rfl) (hB45.part 0 _ rfl)) fun a47 hA47 _ => ?_)
  obtain ⟨r_48, hc52, ht51⟩ := ht40
  refine sq (opk_gcall hA47 rfl rfl (g := true) (e := r_37) rfl (fun hg => r_call (args := #[.agg #[.int .i64 1, .string (Bs ([] : Str)), .string (Bs ([] : Str)), Sl.v Sl.nil, Sl.v (Sl.mk (some ⟨B_4, 0, none⟩) 1 1)]]) Try.func21 (by decide) rfl (map_arr (ml_cons (cv_get (hA47.get rfl) hg) ml_nil)) rfl) (fun hg => hc52 (g_t hg)) fun a49 w50 hA49 _ hE53 => ?_)
  have hB54 := hB45.ext hE53
  have hC55 : Chg [] w39 w50 := hE53
  have ht56 := ht51 w50 hE53
  refine sq (opk_gval hA49 rfl rfl (g := true) (e := r_37) rfl (fun hg => r_eql (cv_get (hA49.get rfl) hg) rfl) fun a57 hA57 _ => ?_)
  refine sq (opk_val hA57 rfl (r_pick_and (g := (true && (r_37 == true))) (hA57.get rfl) (hA57.get rfl) (fun he => g_mkt rfl he)) fun a58 hA58 _ => ?_)
  refine sq (opk_val hA58 rfl (r_move (hA58.get rfl)) fun a59 hA59 _ => ?_)
  refine sq (opk_gval hA59 rfl rfl (g := true) (e := (r_37 && (decide (r_48 = 2)))) rfl (fun hg => r_loadN (cs := [.int .i64 1, .string (Bs ([] : Str)), .string (Bs ([] : Str)), Sl.v Sl.nil, Sl.v (Sl.mk (some ⟨B_4, 0, none⟩) 1 1)]) Try.underlying26 rfl ti_26 (hA59.get rfl) (hB54.part 0 _ rfl)) fun a60 hA60 _ => ?_)
  obtain ⟨r_61, hc65, ht64⟩ := ht56
  refine sq (opk_gcall hA60 rfl rfl (g := true) (e := (r_37 && (decide (r_48 = 2)))) rfl (fun hg => r_call (args := #[.agg #[.int .i64 1, .string (Bs ([] : Str)), .string (Bs ([] : Str)), Sl.v Sl.nil, Sl.v (Sl.mk (some ⟨B_4, 0, none⟩) 1 1)]]) Try.func18 (by decide) rfl (map_arr (ml_cons (cv_get (hA60.get rfl) hg) ml_nil)) rfl) (fun hg => hc65 ⟨(b_and_t (g_t hg)).1, (of_decide_eq_true (b_and_t (g_t hg)).2)⟩) fun a62 w63 hA62 _ hE66 => ?_)
  have hB67 := hB54.ext hE66
  have hC68 : Chg [] w50 w63 := hE66
  have ht69 := ht64 w63 hE66
  refine sq (opk_gval hA62 rfl rfl (g := true) (e := (r_37 && (decide (r_48 = 2)))) rfl (fun hg => r_eql (cv_get (hA62.get rfl) hg) rfl) fun a70 hA70 _ => ?_)
  refine sq (opk_val hA70 rfl (r_pick_and (g := (true && ((r_37 && (decide (r_48 = 2))) == true))) (hA70.get rfl) (hA70.get rfl) (fun he => g_mkt rfl he)) fun a71 hA71 _ => ?_)
  refine sq (opk_val hA71 rfl (r_move (hA71.get rfl)) fun a72 hA72 _ => ?_)
  refine sq (opk_gval hA72 rfl rfl (g := true) (e := ((r_37 && (decide (r_48 = 2))) && (decide (r_61 = 2)))) rfl (fun hg => r_fieldAddr (hA72.get rfl) Try.underlying26 rfl ti_24 (by decide)) fun a73 hA73 _ => ?_)
  refine sq (opk_gval hA73 rfl rfl (g := true) (e := ((r_37 && (decide (r_48 = 2))) && (decide (r_61 = 2)))) rfl (fun hg => r_load1 Try.underlying24 rfl (cv_get (hA73.get rfl) hg) (hB67.cell 4 _ rfl)) fun a74 hA74 _ => ?_)
  obtain ⟨p_75, hp77, ht78⟩ := ht69
  refine sq (opk_gval hA74 rfl rfl (g := true) (e := ((r_37 && (decide (r_48 = 2))) && (decide (r_61 = 2)))) rfl (fun hg => r_indexAddr (cv_get (hA74.get rfl) hg) rfl Try.underlying24 ti_26 (hp77 ⟨⟨(b_and_t (b_and_t (g_t hg)).1).1, (of_decide_eq_true (b_and_t (b_and_t (g_t hg)).1).2)⟩, (of_decide_eq_true (b_and_t (g_t hg)).2)⟩).1 (hp77 ⟨⟨(b_and_t (b_and_t (g_t hg)).1).1, (of_decide_eq_true (b_and_t (b_and_t (g_t hg)).1).2)⟩, (of_decide_eq_true (b_and_t (g_t hg)).2)⟩).2) fun a79 hA79 _ => ?_)
  obtain ⟨x_81_Kind, x_81_Name, x_81_Text, x_81_Attrs, x_81_Kids, hx82, ht83⟩ := ht78
  refine sq (opk_gval hA79 rfl rfl (g := true) (e := ((r_37 && (decide (r_48 = 2))) && (decide (r_61 = 2)))) rfl (fun hg => r_loadN Try.underlying26 rfl ti_26 (cv_get (hA79.get rfl) hg) (hx82 ⟨⟨(b_and_t (b_and_t (g_t hg)).1).1, (of_decide_eq_true (b_and_t (b_and_t (g_t hg)).1).2)⟩, (of_decide_eq_true (b_and_t (g_t hg)).2)⟩)) fun a80 hA80 _ => ?_)
  obtain ⟨r_84, hc88, ht87⟩ := ht83
  refine sq (opk_gcall hA80 rfl rfl (g := true) (e := ((r_37 && (decide (r_48 = 2))) && (decide (r_61 = 2)))) rfl (fun hg => r_call (args := #[.agg #[.int .i64 x_81_Kind, .string (Bs x_81_Name), .string (Bs x_81_Text), Sl.v x_81_Attrs, Sl.v x_81_Kids]]) Try.func12 (by decide) rfl (map_arr (ml_cons (cv_get (hA80.get rfl) hg) ml_nil)) rfl) (fun hg => hc88 ⟨⟨(b_and_t (b_and_t (g_t hg)).1).1, (of_decide_eq_true (b_and_t (b_and_t (g_t hg)).1).2)⟩, (of_decide_eq_true (b_and_t (g_t hg)).2)⟩) fun a85 w86 hA85 _ hE89 => ?_)
  have hB90 := hB67.ext hE89
  have hC91 : Chg [] w63 w86 := hE89
  have ht92 := ht87 w86 hE89
  refine sq (opk_gval hA85 rfl rfl (g := true) (e := ((r_37 && (decide (r_48 = 2))) && (decide (r_61 = 2)))) rfl (fun hg => r_not (cv_get (hA85.get rfl) hg)) fun a93 hA93 _ => ?_)
  refine sq (opk_val hA93 rfl (r_pick_and (g := (true && (((r_37 && (decide (r_48 = 2))) && (decide (r_61 = 2))) == true))) (hA93.get rfl) (hA93.get rfl) (fun he => g_mkt rfl he)) fun a94 hA94 _ => ?_)
  refine sq (opk_val hA94 rfl (r_assign (hA94.get rfl)) fun a95 hA95 _ => ?_)
  refine sq_end ?_
  have hA96 := hA95.keep [(0, .bool (((r_37 && (decide (r_48 = 2))) && (decide (r_61 = 2))) && (!r_84)))] ⟨rfl, trivial⟩
  refine then_normal ?_
  refine wp_ret ?_
  exact res_all (vs := [.bool (((r_37 && (decide (r_48 = 2))) && (decide (r_61 = 2))) && (!r_84))]) rfl hA96 ⟨res_of_tmp hA96 rfl, trivial⟩ ht92

/-- The condition of topiary/topiarylaw05.TreeLimits.1. -/
def law05_TreeLimits_1.vc (n_1 : Int) (R : Value → World → Prop) (w : World) : Prop :=
∀ (w23 : World) (B_2 : Nat) (B_12 : Nat), New w B_2 w23 → New w B_12 w23 → B_2 ≠ B_12 → Chg [] w w23 →
∃ (J_93 : Int → Sl → World → Prop) (mu_94 : Int → Sl → World → Nat),
J_93 1 Sl.nil w23 ∧
(∀ (i_90 : Int) (c_91 : Sl) (w92 : World), J_93 i_90 c_91 w92 →
((i_90 < n_1) →
∀ (w164 : World) (B_163 : Nat), New w92 B_163 w164 → Chg [] w92 w164 →
∀ (_ : Box w164 B_163 26 [.int .i64 4, .string (Bs ([] : Str)), .string (Bs ([] : Str)), Sl.v Sl.nil, Sl.v Sl.nil]),
RunK Try.prog (Builtin.append_ #[24, 24] 24 #[Sl.v c_91, Sl.v (Sl.mk (some ⟨B_163, 0, none⟩) 1 1)]) w164 [B_2, B_12] (fun v w178 => ∃ (r_184 : Sl), v = Sl.v r_184 ∧
(I64 (i_90 + 1)) ∧
∀ (w188 : World), Chg [B_12] w178 w188 →
J_93 (i_90 + 1) r_184 w188 ∧ mu_94 (i_90 + 1) r_184 w188 < mu_94 i_90 c_91 w92)) ∧
((¬ (i_90 < n_1)) →
∀ (w206 : World), Chg [B_2] w92 w206 →
R (.agg #[.int .i64 1, .string (Bs ([] : Str)), .string (Bs ([] : Str)), Sl.v Sl.nil, Sl.v c_91]) w206))
set_option maxHeartbeats 1000000 in
set_option maxRecDepth 10000 in
theorem law05_TreeLimits_1.ok (n_1 : Int) {R : Value → World → Prop} {w : World} (ht0 : law05_TreeLimits_1.vc n_1 R w) : Calls Try.prog 16 #[.int .i64 n_1] w (Ret R) := by
  refine enter [.int .i64 n_1] Try.func16 rfl Try.ntmps16 rfl ?_
  intro a0 hA0
  unfold law05_TreeLimits_1.vc at ht0
  refine wp_seq ?_
  refine wp_region_lit ?_
  refine sq (opk_new (fun B => .pointer (some ⟨B, 0, none⟩)) hA0 rfl (r_alloc (cs := [.int .i64 0, .string (Bs ([] : Str)), .string (Bs ([] : Str)), Sl.v Sl.nil, Sl.v Sl.nil]) ti_26 rfl) fun a4 w3 B_2 hE5 hN6 hB7 hA4 _ => ?_)
  have hN8 : New w B_2 w3 := hN6
  have hC9 : Chg [] w w3 := hE5
  refine sq_end ?_
  have hA10 := hA4.keep [(0, .int .i64 n_1), (2, .pointer (some ⟨B_2, 0, none⟩))] ⟨rfl, rfl, trivial⟩
  refine then_normal ?_
  refine wp_seq ?_
  refine wp_region_lit ?_
  refine sq (opk_val hA10 rfl (r_build (vs := #[(0, .int .i64 1)]) (cells := #[.int .i64 1, .string (Bs ([] : Str)), .string (Bs ([] : Str)), Sl.v Sl.nil, Sl.v Sl.nil]) (map_arr2 (ml2_cons rfl (ml2_nil))) ti_26 Try.underlying26 pl_26 (by kernel_rfl)) fun a11 hA11 _ => ?_)
  refine sq (opk_new (fun B => .pointer (some ⟨B, 0, none⟩)) hA11 rfl (r_alloc (cs := [.int .i64 0, .string (Bs ([] : Str)), .string (Bs ([] : Str)), Sl.v Sl.nil, Sl.v Sl.nil]) ti_26 rfl) fun a14 w13 B_12 hE15 hN16 hB17 hA14 _ => ?_)
  have hne18 : B_2 ≠ B_12 := Nat.ne_of_lt (Nat.lt_of_lt_of_le hB7.lt hN16.ge)
  have hN19 := New.of hC9 hN16
  have hB20 := hB7.ext hE15
  have hC21 := hC9.more hE15
  have hN22 := hN8.up hE15.size
  refine sq (opk_store hA14 hB17 (r_store (vs := [.int .i64 1, .string (Bs ([] : Str)), .string (Bs ([] : Str)), Sl.v Sl.nil, Sl.v Sl.nil]) (hA14.get rfl) (hA14.get rfl) rfl ti_26 hB17 rfl (ones_all [.int .i64 1, .string (Bs ([] : Str)), .string (Bs ([] : Str)), Sl.v Sl.nil, Sl.v Sl.nil] rfl)) fun a24 w23 hS25 hB26 hA24 => ?_)
  have hB27 : Box w23 B_12 26 [.int .i64 1, .string (Bs ([] : Str)), .string (Bs ([] : Str)), Sl.v Sl.nil, Sl.v Sl.nil] := hB26
  have hB28 := hB20.keep hS25 (by simpa using hne18)
  have hC29 := hC21.storeNew hN19 hS25
  have hN30 := hN22.up hS25.size
  have hN31 := hN19.up hS25.size
  refine sq_end ?_
  have hA32 := hA24.keep [(0, .int .i64 n_1), (2, .pointer (some ⟨B_2, 0, none⟩)), (3, .pointer (some ⟨B_12, 0, none⟩))] ⟨rfl, rfl, rfl, trivial⟩
  refine then_normal ?_
  refine wp_seq ?_
  refine wp_seq ?_
  refine wp_region_lit ?_
  refine sq (opk_val hA32 rfl (r_assign rfl) fun a33 hA33 _ => ?_)
  refine sq_end ?_
  have hA34 := hA33.keep [(0, .int .i64 n_1), (2, .pointer (some ⟨B_2, 0, none⟩)), (3, .pointer (some ⟨B_12, 0, none⟩)), (4, .int .i64 1)] ⟨rfl, rfl, rfl, rfl, trivial⟩
  refine then_normal ?_
  refine wp_block ?_
  have ht146 := ht0 w23 B_2 B_12 hN30 hN31 hne18 hC29
  obtain ⟨J_93, mu_94, h0151, ht150⟩ := ht146
  refine wp_loop_st (σ := Int × Sl × World) (fun s a w => Ag 18 a [(0, .int .i64 n_1), (2, .pointer (some ⟨B_2, 0, none⟩)), (3, .pointer (some ⟨B_12, 0, none⟩)), (4, .int .i64 s.1)] ∧ Box w B_2 26 [.int .i64 0, .string (Bs ([] : Str)), .string (Bs ([] : Str)), Sl.v Sl.nil, Sl.v Sl.nil] ∧ Box w B_12 26 [.int .i64 1, .string (Bs ([] : Str)), .string (Bs ([] : Str)), Sl.v Sl.nil, Sl.v s.2.1] ∧ w = s.2.2 ∧ J_93 s.1 s.2.1 s.2.2) (fun s => mu_94 s.1 s.2.1 s.2.2) (1, Sl.nil, w23) ⟨hA34.keep [(0, .int .i64 n_1), (2, .pointer (some ⟨B_2, 0, none⟩)), (3, .pointer (some ⟨B_12, 0, none⟩)), (4, .int .i64 1)] ⟨rfl, rfl, rfl, rfl, trivial⟩, hB28, hB27, rfl, h0151⟩ ?_
  rintro ⟨i_90, c_91, w92⟩ a147 w_ ⟨hA147, hB148, hB149, hw_, hJ153⟩
  have hw_ : w92 = w_ := hw_.symm
  subst hw_
  have ht152 := ht150 i_90 c_91 _ hJ153
  refine wp_seq ?_
  refine wp_seq ?_
  refine wp_region_lit ?_
  refine sq (opk_val hA147 rfl (r_move (hA147.get rfl)) fun a154 hA154 _ => ?_)
  refine sq (opk_val hA154 rfl (r_move (hA154.get rfl)) fun a155 hA155 _ => ?_)
  refine sq (opk_val hA155 rfl (r_lss (hA155.get rfl) (hA155.get rfl)) fun a156 hA156 _ => ?_)
  refine sq_end ?_
  have hA157 := hA156.keep [(0, .int .i64 n_1), (2, .pointer (some ⟨B_2, 0, none⟩)), (3, .pointer (some ⟨B_12, 0, none⟩)), (4, .int .i64 i_90), (8, .bool (decide (i_90 < n_1)))] ⟨rfl, rfl, rfl, rfl, rfl, trivial⟩
  refine then_normal ?_
  refine wp_cond_split (hA157.get rfl) (fun hc => ?_) (fun hc => ?_)
  · have ht158 := ht152.1 (of_decide_eq_true hc)
    clear hc
    refine wp_skip ?_
    refine then_normal ?_
    refine wp_seq ?_
    refine wp_block ?_
    refine wp_region_lit ?_
    refine sq (opk_val hA157 rfl (r_fieldAddr (hA157.get rfl) Try.underlying26 rfl ti_24 (by decide)) fun a160 hA160 _ => ?_)
    refine sq (opk_val hA160 rfl (r_load1 Try.underlying24 rfl (hA160.get rfl) (hB149.cell 4 _ rfl)) fun a161 hA161 _ => ?_)
    refine sq (opk_val hA161 rfl (r_build (vs := #[(0, .int .i64 4)]) (cells := #[.int .i64 4, .string (Bs ([] : Str)), .string (Bs ([] : Str)), Sl.v Sl.nil, Sl.v Sl.nil]) (map_arr2 (ml2_cons rfl (ml2_nil))) ti_26 Try.underlying26 pl_26 (by kernel_rfl)) fun a162 hA162 _ => ?_)
    refine sq (opk_new (fun B => .slice (some ⟨B, 0, none⟩) 1 1) hA162 rfl (r_buildSlice (vs := #[(0, .agg #[.int .i64 4, .string (Bs ([] : Str)), .string (Bs ([] : Str)), Sl.v Sl.nil, Sl.v Sl.nil])]) (cs := [.int .i64 4, .string (Bs ([] : Str)), .string (Bs ([] : Str)), Sl.v Sl.nil, Sl.v Sl.nil]) (map_arr2 (ml2_cons (hA162.get rfl) (ml2_nil))) Try.underlying24 ti_26 rfl rfl (by kernel_rfl)) fun a165 w164 B_163 hE166 hN167 hB168 hA165 _ => ?_)
    have hne169 : B_2 ≠ B_163 := Nat.ne_of_lt (Nat.lt_of_lt_of_le hB148.lt hN167.ge)
    have hne170 : B_12 ≠ B_163 := Nat.ne_of_lt (Nat.lt_of_lt_of_le hB149.lt hN167.ge)
    have hN171 : New w92 B_163 w164 := hN167
    have hB172 := hB148.ext hE166
    have hB173 := hB149.ext hE166
    have hC174 : Chg [] w92 w164 := hE166
    have ht175 := ht158 w164 B_163 hN171  hC174
    have ht176 := ht175 hB168
    refine sq (opk_run hA165 rfl (fun _ _ hr => r_append (hA165.get rfl) (hA165.get rfl) hr) ht176 fun a177 v183 w178 hA177 _ hn180 hz181 hK182 => ?_)
    obtain ⟨r_184, rfl, ht179⟩ := hK182
    have hB185 := hB172.kept hn180 (.head _)
    have hB186 := hB173.kept hn180 (.tail _ (.head _))
    refine sq (opk_val hA177 rfl (r_fieldAddr (hA177.get rfl) Try.underlying26 rfl ti_24 (by decide)) fun a187 hA187 _ => ?_)
    refine sq (opk_store hA187 hB186 (r_store (vs := [Sl.v r_184]) (hA187.get rfl) (hA187.get rfl) rfl ti_24 hB186 rfl (ones_all [Sl.v r_184] rfl)) fun a189 w188 hS190 hB191 hA189 => ?_)
    have hB192 : Box w188 B_12 26 [.int .i64 1, .string (Bs ([] : Str)), .string (Bs ([] : Str)), Sl.v Sl.nil, Sl.v r_184] := hB191
    have hB193 := hB185.keep hS190 (by simpa using hne18)
    have hC194 : Chg [B_12] w178 w188 := hS190
    refine sq_end ?_
    have hA195 := hA189.keep [(0, .int .i64 n_1), (2, .pointer (some ⟨B_2, 0, none⟩)), (3, .pointer (some ⟨B_12, 0, none⟩)), (4, .int .i64 i_90)] ⟨rfl, rfl, rfl, rfl, trivial⟩
    refine block_normal ?_
    refine then_normal ?_
    refine wp_region_lit ?_
    refine sq (opk_val hA195 rfl (r_move (hA195.get rfl)) fun a196 hA196 _ => ?_)
    obtain ⟨hS198, ht199⟩ := ht179
    refine sq (opk_val hA196 rfl (r_addI (hA196.get rfl) rfl hS198) fun a197 hA197 _ => ?_)
    refine sq (opk_val hA197 rfl (r_assign (hA197.get rfl)) fun a200 hA200 _ => ?_)
    refine sq_end ?_
    have hA201 := hA200.keep [(0, .int .i64 n_1), (2, .pointer (some ⟨B_2, 0, none⟩)), (3, .pointer (some ⟨B_12, 0, none⟩)), (4, .int .i64 (i_90 + 1))] ⟨rfl, rfl, rfl, rfl, trivial⟩
    have ht202 := ht199 w188    hC194
    have hA203 := hA201.keep [(0, .int .i64 n_1), (2, .pointer (some ⟨B_2, 0, none⟩)), (3, .pointer (some ⟨B_12, 0, none⟩)), (4, .int .i64 (i_90 + 1))] ⟨rfl, rfl, rfl, rfl, trivial⟩
    exact then_normal ⟨(i_90 + 1, r_184, w188), ⟨hA203, hB193, hB192, rfl, ht202.1⟩, ht202.2⟩
  · have ht159 := ht152.2 (of_decide_eq_false hc)
    clear hc
    refine wp_exit ?_
    refine then_exit ?_
    refine then_exit ?_
    refine block_hit ?_
    have hA204 := hA157.keep [(2, .pointer (some ⟨B_2, 0, none⟩)), (3, .pointer (some ⟨B_12, 0, none⟩))] ⟨rfl, rfl, trivial⟩
    refine then_normal ?_
    refine wp_seq ?_
    refine wp_region_lit ?_
    refine sq (opk_val hA204 rfl (r_loadN (cs := [.int .i64 1, .string (Bs ([] : Str)), .string (Bs ([] : Str)), Sl.v Sl.nil, Sl.v c_91]) Try.underlying26 rfl ti_26 (hA204.get rfl) (hB149.part 0 _ rfl)) fun a205 hA205 _ => ?_)
    refine sq (opk_store hA205 hB148 (r_store (vs := [.int .i64 1, .string (Bs ([] : Str)), .string (Bs ([] : Str)), Sl.v Sl.nil, Sl.v c_91]) (hA205.get rfl) (hA205.get rfl) rfl ti_26 hB148 rfl (ones_all [.int .i64 1, .string (Bs ([] : Str)), .string (Bs ([] : Str)), Sl.v Sl.nil, Sl.v c_91] rfl)) fun a207 w206 hS208 hB209 hA207 => ?_)
    have hB210 : Box w206 B_2 26 [.int .i64 1, .string (Bs ([] : Str)), .string (Bs ([] : Str)), Sl.v Sl.nil, Sl.v c_91] := hB209
    have hB211 := hB149.keep hS208 (by simpa using hne18.symm)
    have hC212 : Chg [B_2] w92 w206 := hS208
    refine sq_end ?_
    have hA213 := hA207.keep [(2, .pointer (some ⟨B_2, 0, none⟩))] ⟨rfl, trivial⟩
    refine then_normal ?_
    refine wp_ret ?_
    have ht214 := ht159 w206    hC212
    exact res_all (vs := [.agg #[.int .i64 1, .string (Bs ([] : Str)), .string (Bs ([] : Str)), Sl.v Sl.nil, Sl.v c_91]]) rfl hA213 ⟨res_of_cell hA213 rfl hB210 Try.underlying26 rfl ti_26, trivial⟩ ht214

/-- The condition of topiary/topiarylaw05.TreeLimits.2. -/
def law05_TreeLimits_2.vc (n_1 : Int) (R : Value → World → Prop) (w : World) : Prop :=
∀ (w23 : World) (B_2 : Nat) (B_12 : Nat), New w B_2 w23 → New w B_12 w23 → B_2 ≠ B_12 → Chg [] w w23 →
∃ (J_81 : Int → Sl → World → Prop) (mu_82 : Int → Sl → World → Nat),
J_81 2 Sl.nil w23 ∧
(∀ (i_78 : Int) (c_79 : Sl) (w80 : World), J_81 i_78 c_79 w80 →
((i_78 < n_1) →
(I64 (i_78 + 1)) ∧
∀ (w150 : World) (B_137 : Nat), New w80 B_137 w150 → Chg [B_12] w80 w150 →
∀ (_ : Box w150 B_137 26 [.int .i64 2, .string (Bs ([97] : Str)), .string (Bs ([] : Str)), Sl.v Sl.nil, Sl.v c_79]),
J_81 (i_78 + 1) (Sl.mk (some ⟨B_137, 0, none⟩) 1 1) w150 ∧ mu_82 (i_78 + 1) (Sl.mk (some ⟨B_137, 0, none⟩) 1 1) w150 < mu_82 i_78 c_79 w80) ∧
((¬ (i_78 < n_1)) →
∀ (w184 : World) (B_171 : Nat), New w80 B_171 w184 → Chg [B_2] w80 w184 →
∀ (_ : Box w184 B_171 26 [.int .i64 2, .string (Bs ([97] : Str)), .string (Bs ([] : Str)), Sl.v Sl.nil, Sl.v c_79]),
R (.agg #[.int .i64 1, .string (Bs ([] : Str)), .string (Bs ([] : Str)), Sl.v Sl.nil, Sl.v (Sl.mk (some ⟨B_171, 0, none⟩) 1 1)]) w184))
set_option maxHeartbeats 1000000 in
set_option maxRecDepth 10000 in
theorem law05_TreeLimits_2.ok (n_1 : Int) {R : Value → World → Prop} {w : World} (ht0 : law05_TreeLimits_2.vc n_1 R w) : Calls Try.prog 17 #[.int .i64 n_1] w (Ret R) := by
  refine enter [.int .i64 n_1] Try.func17 rfl Try.ntmps17 rfl ?_
  intro a0 hA0
  unfold law05_TreeLimits_2.vc at ht0
  refine wp_seq ?_
  refine wp_region_lit ?_
  refine sq (opk_new (fun B => .pointer (some ⟨B, 0, none⟩)) hA0 rfl (r_alloc (cs := [.int .i64 0, .string (Bs ([] : Str)), .string (Bs ([] : Str)), Sl.v Sl.nil, Sl.v Sl.nil]) ti_26 rfl) fun a4 w3 B_2 hE5 hN6 hB7 hA4 _ => ?_)
  have hN8 : New w B_2 w3 := hN6
  have hC9 : Chg [] w w3 := hE5
  refine sq_end ?_
  have hA10 := hA4.keep [(0, .int .i64 n_1), (2, .pointer (some ⟨B_2, 0, none⟩))] ⟨rfl, rfl, trivial⟩
  refine then_normal ?_
  refine wp_seq ?_
  refine wp_region_lit ?_
  refine sq (opk_val hA10 rfl (r_build (vs := #[(0, .int .i64 2), (1, .string (Bs ([97] : Str)))]) (cells := #[.int .i64 2, .string (Bs ([97] : Str)), .string (Bs ([] : Str)), Sl.v Sl.nil, Sl.v Sl.nil]) (map_arr2 (ml2_cons rfl (ml2_cons rfl (ml2_nil)))) ti_26 Try.underlying26 pl_26 (by kernel_rfl)) fun a11 hA11 _ => ?_)
  refine sq (opk_new (fun B => .pointer (some ⟨B, 0, none⟩)) hA11 rfl (r_alloc (cs := [.int .i64 0, .string (Bs ([] : Str)), .string (Bs ([] : Str)), Sl.v Sl.nil, Sl.v Sl.nil]) ti_26 rfl) fun a14 w13 B_12 hE15 hN16 hB17 hA14 _ => ?_)
  have hne18 : B_2 ≠ B_12 := Nat.ne_of_lt (Nat.lt_of_lt_of_le hB7.lt hN16.ge)
  have hN19 := New.of hC9 hN16
  have hB20 := hB7.ext hE15
  have hC21 := hC9.more hE15
  have hN22 := hN8.up hE15.size
  refine sq (opk_store hA14 hB17 (r_store (vs := [.int .i64 2, .string (Bs ([97] : Str)), .string (Bs ([] : Str)), Sl.v Sl.nil, Sl.v Sl.nil]) (hA14.get rfl) (hA14.get rfl) rfl ti_26 hB17 rfl (ones_all [.int .i64 2, .string (Bs ([97] : Str)), .string (Bs ([] : Str)), Sl.v Sl.nil, Sl.v Sl.nil] rfl)) fun a24 w23 hS25 hB26 hA24 => ?_)
  have hB27 : Box w23 B_12 26 [.int .i64 2, .string (Bs ([97] : Str)), .string (Bs ([] : Str)), Sl.v Sl.nil, Sl.v Sl.nil] := hB26
  have hB28 := hB20.keep hS25 (by simpa using hne18)
  have hC29 := hC21.storeNew hN19 hS25
  have hN30 := hN22.up hS25.size
  have hN31 := hN19.up hS25.size
  refine sq_end ?_
  have hA32 := hA24.keep [(0, .int .i64 n_1), (2, .pointer (some ⟨B_2, 0, none⟩)), (3, .pointer (some ⟨B_12, 0, none⟩))] ⟨rfl, rfl, rfl, trivial⟩
  refine then_normal ?_
  refine wp_seq ?_
  refine wp_seq ?_
  refine wp_region_lit ?_
  refine sq (opk_val hA32 rfl (r_assign rfl) fun a33 hA33 _ => ?_)
  refine sq_end ?_
  have hA34 := hA33.keep [(0, .int .i64 n_1), (2, .pointer (some ⟨B_2, 0, none⟩)), (3, .pointer (some ⟨B_12, 0, none⟩)), (4, .int .i64 2)] ⟨rfl, rfl, rfl, rfl, trivial⟩
  refine then_normal ?_
  refine wp_block ?_
  have ht122 := ht0 w23 B_2 B_12 hN30 hN31 hne18 hC29
  obtain ⟨J_81, mu_82, h0127, ht126⟩ := ht122
  refine wp_loop_st (σ := Int × Sl × World) (fun s a w => Ag 17 a [(0, .int .i64 n_1), (2, .pointer (some ⟨B_2, 0, none⟩)), (3, .pointer (some ⟨B_12, 0, none⟩)), (4, .int .i64 s.1)] ∧ Box w B_2 26 [.int .i64 0, .string (Bs ([] : Str)), .string (Bs ([] : Str)), Sl.v Sl.nil, Sl.v Sl.nil] ∧ Box w B_12 26 [.int .i64 2, .string (Bs ([97] : Str)), .string (Bs ([] : Str)), Sl.v Sl.nil, Sl.v s.2.1] ∧ w = s.2.2 ∧ J_81 s.1 s.2.1 s.2.2) (fun s => mu_82 s.1 s.2.1 s.2.2) (2, Sl.nil, w23) ⟨hA34.keep [(0, .int .i64 n_1), (2, .pointer (some ⟨B_2, 0, none⟩)), (3, .pointer (some ⟨B_12, 0, none⟩)), (4, .int .i64 2)] ⟨rfl, rfl, rfl, rfl, trivial⟩, hB28, hB27, rfl, h0127⟩ ?_
  rintro ⟨i_78, c_79, w80⟩ a123 w_ ⟨hA123, hB124, hB125, hw_, hJ129⟩
  have hw_ : w80 = w_ := hw_.symm
  subst hw_
  have ht128 := ht126 i_78 c_79 _ hJ129
  refine wp_seq ?_
  refine wp_seq ?_
  refine wp_region_lit ?_
  refine sq (opk_val hA123 rfl (r_move (hA123.get rfl)) fun a130 hA130 _ => ?_)
  refine sq (opk_val hA130 rfl (r_move (hA130.get rfl)) fun a131 hA131 _ => ?_)
  refine sq (opk_val hA131 rfl (r_lss (hA131.get rfl) (hA131.get rfl)) fun a132 hA132 _ => ?_)
  refine sq_end ?_
  have hA133 := hA132.keep [(0, .int .i64 n_1), (2, .pointer (some ⟨B_2, 0, none⟩)), (3, .pointer (some ⟨B_12, 0, none⟩)), (4, .int .i64 i_78), (8, .bool (decide (i_78 < n_1)))] ⟨rfl, rfl, rfl, rfl, rfl, trivial⟩
  refine then_normal ?_
  refine wp_cond_split (hA133.get rfl) (fun hc => ?_) (fun hc => ?_)
  · have ht134 := ht128.1 (of_decide_eq_true hc)
    clear hc
    refine wp_skip ?_
    refine then_normal ?_
    refine wp_seq ?_
    refine wp_block ?_
    refine wp_region_lit ?_
    refine sq (opk_val hA133 rfl (r_loadN (cs := [.int .i64 2, .string (Bs ([97] : Str)), .string (Bs ([] : Str)), Sl.v Sl.nil, Sl.v c_79]) Try.underlying26 rfl ti_26 (hA133.get rfl) (hB125.part 0 _ rfl)) fun a136 hA136 _ => ?_)
    refine sq (opk_new (fun B => .slice (some ⟨B, 0, none⟩) 1 1) hA136 rfl (r_buildSlice (vs := #[(0, .agg #[.int .i64 2, .string (Bs ([97] : Str)), .string (Bs ([] : Str)), Sl.v Sl.nil, Sl.v c_79])]) (cs := [.int .i64 2, .string (Bs ([97] : Str)), .string (Bs ([] : Str)), Sl.v Sl.nil, Sl.v c_79]) (map_arr2 (ml2_cons (hA136.get rfl) (ml2_nil))) Try.underlying24 ti_26 rfl rfl (by kernel_rfl)) fun a139 w138 B_137 hE140 hN141 hB142 hA139 _ => ?_)
    have hne143 : B_2 ≠ B_137 := Nat.ne_of_lt (Nat.lt_of_lt_of_le hB124.lt hN141.ge)
    have hne144 : B_12 ≠ B_137 := Nat.ne_of_lt (Nat.lt_of_lt_of_le hB125.lt hN141.ge)
    have hN145 : New w80 B_137 w138 := hN141
    have hB146 := hB124.ext hE140
    have hB147 := hB125.ext hE140
    have hC148 : Chg [] w80 w138 := hE140
    refine sq (opk_val hA139 rfl (r_build (vs := #[(0, .int .i64 2), (1, .string (Bs ([97] : Str))), (4, Sl.v (Sl.mk (some ⟨B_137, 0, none⟩) 1 1))]) (cells := #[.int .i64 2, .string (Bs ([97] : Str)), .string (Bs ([] : Str)), Sl.v Sl.nil, Sl.v (Sl.mk (some ⟨B_137, 0, none⟩) 1 1)]) (map_arr2 (ml2_cons rfl (ml2_cons rfl (ml2_cons (hA139.get rfl) (ml2_nil))))) ti_26 Try.underlying26 pl_26 (by kernel_rfl)) fun a149 hA149 _ => ?_)
    refine sq (opk_store hA149 hB147 (r_store (vs := [.int .i64 2, .string (Bs ([97] : Str)), .string (Bs ([] : Str)), Sl.v Sl.nil, Sl.v (Sl.mk (some ⟨B_137, 0, none⟩) 1 1)]) (hA149.get rfl) (hA149.get rfl) rfl ti_26 hB147 rfl (ones_all [.int .i64 2, .string (Bs ([97] : Str)), .string (Bs ([] : Str)), Sl.v Sl.nil, Sl.v (Sl.mk (some ⟨B_137, 0, none⟩) 1 1)] rfl)) fun a151 w150 hS152 hB153 hA151 => ?_)
    have hB154 : Box w150 B_12 26 [.int .i64 2, .string (Bs ([97] : Str)), .string (Bs ([] : Str)), Sl.v Sl.nil, Sl.v (Sl.mk (some ⟨B_137, 0, none⟩) 1 1)] := hB153
    have hB155 := hB146.keep hS152 (by simpa using hne18)
    have hB156 := hB142.keep hS152 (by simpa using hne144.symm)
    have hC157 := hC148.storeOld hS152
    have hN158 := hN145.up hS152.size
    refine sq_end ?_
    have hA159 := hA151.keep [(0, .int .i64 n_1), (2, .pointer (some ⟨B_2, 0, none⟩)), (3, .pointer (some ⟨B_12, 0, none⟩)), (4, .int .i64 i_78)] ⟨rfl, rfl, rfl, rfl, trivial⟩
    refine block_normal ?_
    refine then_normal ?_
    refine wp_region_lit ?_
    refine sq (opk_val hA159 rfl (r_move (hA159.get rfl)) fun a160 hA160 _ => ?_)
    obtain ⟨hS162, ht163⟩ := ht134
    refine sq (opk_val hA160 rfl (r_addI (hA160.get rfl) rfl hS162) fun a161 hA161 _ => ?_)
    refine sq (opk_val hA161 rfl (r_assign (hA161.get rfl)) fun a164 hA164 _ => ?_)
    refine sq_end ?_
    have hA165 := hA164.keep [(0, .int .i64 n_1), (2, .pointer (some ⟨B_2, 0, none⟩)), (3, .pointer (some ⟨B_12, 0, none⟩)), (4, .int .i64 (i_78 + 1))] ⟨rfl, rfl, rfl, rfl, trivial⟩
    have ht166 := ht163 w150 B_137 hN158  hC157
    have ht167 := ht166 hB156
    have hA168 := hA165.keep [(0, .int .i64 n_1), (2, .pointer (some ⟨B_2, 0, none⟩)), (3, .pointer (some ⟨B_12, 0, none⟩)), (4, .int .i64 (i_78 + 1))] ⟨rfl, rfl, rfl, rfl, trivial⟩
    exact then_normal ⟨(i_78 + 1, (Sl.mk (some ⟨B_137, 0, none⟩) 1 1), w150), ⟨hA168, hB155, hB154, rfl, ht167.1⟩, ht167.2⟩
  · have ht135 := ht128.2 (of_decide_eq_false hc)
    clear hc
    refine wp_exit ?_
    refine then_exit ?_
    refine then_exit ?_
    refine block_hit ?_
    have hA169 := hA133.keep [(2, .pointer (some ⟨B_2, 0, none⟩)), (3, .pointer (some ⟨B_12, 0, none⟩))] ⟨rfl, rfl, trivial⟩
    refine then_normal ?_
    refine wp_seq ?_
    refine wp_region_lit ?_
    refine sq (opk_val hA169 rfl (r_loadN (cs := [.int .i64 2, .string (Bs ([97] : Str)), .string (Bs ([] : Str)), Sl.v Sl.nil, Sl.v c_79]) Try.underlying26 rfl ti_26 (hA169.get rfl) (hB125.part 0 _ rfl)) fun a170 hA170 _ => ?_)
    refine sq (opk_new (fun B => .slice (some ⟨B, 0, none⟩) 1 1) hA170 rfl (r_buildSlice (vs := #[(0, .agg #[.int .i64 2, .string (Bs ([97] : Str)), .string (Bs ([] : Str)), Sl.v Sl.nil, Sl.v c_79])]) (cs := [.int .i64 2, .string (Bs ([97] : Str)), .string (Bs ([] : Str)), Sl.v Sl.nil, Sl.v c_79]) (map_arr2 (ml2_cons (hA170.get rfl) (ml2_nil))) Try.underlying24 ti_26 rfl rfl (by kernel_rfl)) fun a173 w172 B_171 hE174 hN175 hB176 hA173 _ => ?_)
    have hne177 : B_2 ≠ B_171 := Nat.ne_of_lt (Nat.lt_of_lt_of_le hB124.lt hN175.ge)
    have hne178 : B_12 ≠ B_171 := Nat.ne_of_lt (Nat.lt_of_lt_of_le hB125.lt hN175.ge)
    have hN179 : New w80 B_171 w172 := hN175
    have hB180 := hB124.ext hE174
    have hB181 := hB125.ext hE174
    have hC182 : Chg [] w80 w172 := hE174
    refine sq (opk_val hA173 rfl (r_build (vs := #[(0, .int .i64 1), (4, Sl.v (Sl.mk (some ⟨B_171, 0, none⟩) 1 1))]) (cells := #[.int .i64 1, .string (Bs ([] : Str)), .string (Bs ([] : Str)), Sl.v Sl.nil, Sl.v (Sl.mk (some ⟨B_171, 0, none⟩) 1 1)]) (map_arr2 (ml2_cons rfl (ml2_cons (hA173.get rfl) (ml2_nil)))) ti_26 Try.underlying26 pl_26 (by kernel_rfl)) fun a183 hA183 _ => ?_)
    refine sq (opk_store hA183 hB180 (r_store (vs := [.int .i64 1, .string (Bs ([] : Str)), .string (Bs ([] : Str)), Sl.v Sl.nil, Sl.v (Sl.mk (some ⟨B_171, 0, none⟩) 1 1)]) (hA183.get rfl) (hA183.get rfl) rfl ti_26 hB180 rfl (ones_all [.int .i64 1, .string (Bs ([] : Str)), .string (Bs ([] : Str)), Sl.v Sl.nil, Sl.v (Sl.mk (some ⟨B_171, 0, none⟩) 1 1)] rfl)) fun a185 w184 hS186 hB187 hA185 => ?_)
    have hB188 : Box w184 B_2 26 [.int .i64 1, .string (Bs ([] : Str)), .string (Bs ([] : Str)), Sl.v Sl.nil, Sl.v (Sl.mk (some ⟨B_171, 0, none⟩) 1 1)] := hB187
    have hB189 := hB181.keep hS186 (by simpa using hne18.symm)
    have hB190 := hB176.keep hS186 (by simpa using hne177.symm)
    have hC191 := hC182.storeOld hS186
    have hN192 := hN179.up hS186.size
    refine sq_end ?_
    have hA193 := hA185.keep [(2, .pointer (some ⟨B_2, 0, none⟩))] ⟨rfl, trivial⟩
    refine then_normal ?_
    refine wp_ret ?_
    have ht194 := ht135 w184 B_171 hN192  hC191
    have ht195 := ht194 hB190
    exact res_all (vs := [.agg #[.int .i64 1, .string (Bs ([] : Str)), .string (Bs ([] : Str)), Sl.v Sl.nil, Sl.v (Sl.mk (some ⟨B_171, 0, none⟩) 1 1)]]) rfl hA193 ⟨res_of_cell hA193 rfl hB188 Try.underlying26 rfl ti_26, trivial⟩ ht195

/-- The condition of topiary/tree.Depth. -/
def tree_Depth.vc (t_1_Kind : Int) (t_1_Name : Str) (t_1_Text : Str) (t_1_Attrs : Sl) (t_1_Kids : Sl) (R : Value → World → Prop) (w : World) : Prop :=
∀ (w3 : World) (B_2 : Nat), New w B_2 w3 → Chg [] w w3 →
∃ (J_22 : Int → Int → World → Prop) (mu_23 : Int → Int → World → Nat),
J_22 0 0 w3 ∧
(∀ (d_19 : Int) (x_20 : Int) (w21 : World), J_22 d_19 x_20 w21 →
((x_20 < (t_1_Kids.n : Int)) →
((0 : Int) ≤ x_20 ∧ x_20 < (t_1_Kids.n : Int)) ∧ ∃ p_84 : Addr, t_1_Kids.a = some p_84 ∧
∃ (x_90_Kind : Int) (x_90_Name : Str) (x_90_Text : Str) (x_90_Attrs : Sl) (x_90_Kids : Sl), (Cells w21 (p_84.add (x_20.toNat * 5)) [.int .i64 x_90_Kind, .string (Bs x_90_Name), .string (Bs x_90_Text), Sl.v x_90_Attrs, Sl.v x_90_Kids]) ∧
∀ (w101 : World) (B_93 : Nat), New w21 B_93 w101 → Chg [] w21 w101 →
CallK Try.prog 18 #[.agg #[.int .i64 x_90_Kind, .string (Bs x_90_Name), .string (Bs x_90_Text), Sl.v x_90_Attrs, Sl.v x_90_Kids]] w101 [B_93] (fun v w114 => ∃ (r_112 : Int), v = .int .i64 r_112 ∧
(I64 (x_20 + 1)) ∧
J_22 (max d_19 r_112) (x_20 + 1) w114 ∧ mu_23 (max d_19 r_112) (x_20 + 1) w114 < mu_23 d_19 x_20 w21)) ∧
((¬ (x_20 < (t_1_Kids.n : Int))) →
(I64 (d_19 + 1)) ∧
R (.int .i64 (d_19 + 1)) w21))
set_option maxHeartbeats 1000000 in
set_option maxRecDepth 10000 in
theorem tree_Depth.ok (t_1_Kind : Int) (t_1_Name : Str) (t_1_Text : Str) (t_1_Attrs : Sl) (t_1_Kids : Sl) {R : Value → World → Prop} {w : World} (ht0 : tree_Depth.vc t_1_Kind t_1_Name t_1_Text t_1_Attrs t_1_Kids R w) : Calls Try.prog 18 #[.agg #[.int .i64 t_1_Kind, .string (Bs t_1_Name), .string (Bs t_1_Text), Sl.v t_1_Attrs, Sl.v t_1_Kids]] w (Ret R) := by
  refine enter [.agg #[.int .i64 t_1_Kind, .string (Bs t_1_Name), .string (Bs t_1_Text), Sl.v t_1_Attrs, Sl.v t_1_Kids]] Try.func18 rfl Try.ntmps18 rfl ?_
  intro a0 hA0
  unfold tree_Depth.vc at ht0
  refine wp_seq ?_
  refine wp_region_lit ?_
  refine sq (opk_new (fun B => .pointer (some ⟨B, 0, none⟩)) hA0 rfl (r_box (cs := [.int .i64 t_1_Kind, .string (Bs t_1_Name), .string (Bs t_1_Text), Sl.v t_1_Attrs, Sl.v t_1_Kids]) (hA0.get rfl) rfl) fun a4 w3 B_2 hE5 hN6 hB7 hA4 _ => ?_)
  have hN8 : New w B_2 w3 := hN6
  have hC9 : Chg [] w w3 := hE5
  refine sq (opk_val hA4 rfl (r_assign rfl) fun a10 hA10 _ => ?_)
  refine sq_end ?_
  have hA11 := hA10.keep [(1, .pointer (some ⟨B_2, 0, none⟩))] ⟨rfl, trivial⟩
  refine then_normal ?_
  refine wp_seq ?_
  refine wp_region_lit ?_
  refine sq (opk_val hA11 rfl (r_assign rfl) fun a12 hA12 _ => ?_)
  refine sq_end ?_
  have hA13 := hA12.keep [(1, .pointer (some ⟨B_2, 0, none⟩)), (3, .int .i64 0)] ⟨rfl, rfl, trivial⟩
  refine then_normal ?_
  refine wp_seq ?_
  refine wp_seq ?_
  refine wp_region_lit ?_
  refine sq (opk_val hA13 rfl (r_fieldAddr (hA13.get rfl) Try.underlying26 rfl ti_24 (by decide)) fun a14 hA14 _ => ?_)
  refine sq (opk_val hA14 rfl (r_load1 Try.underlying24 rfl (hA14.get rfl) (hB7.cell 4 _ rfl)) fun a15 hA15 _ => ?_)
  refine sq (opk_val hA15 rfl (r_len (hA15.get rfl) Try.underlying24) fun a16 hA16 _ => ?_)
  refine sq (opk_val hA16 rfl (r_move rfl) fun a17 hA17 _ => ?_)
  refine sq_end ?_
  have hA18 := hA17.keep [(3, .int .i64 0), (7, Sl.v t_1_Kids), (8, .int .i64 (t_1_Kids.n : Int)), (9, .int .i64 0)] ⟨rfl, rfl, rfl, rfl, trivial⟩
  refine then_normal ?_
  refine wp_block ?_
  have ht74 := ht0 w3 B_2 hN8  hC9
  obtain ⟨J_22, mu_23, h077, ht76⟩ := ht74
  refine wp_loop_st (σ := Int × Int × World) (fun s a w => Ag 20 a [(3, .int .i64 s.1), (7, Sl.v t_1_Kids), (8, .int .i64 (t_1_Kids.n : Int)), (9, .int .i64 s.2.1)] ∧ w = s.2.2 ∧ J_22 s.1 s.2.1 s.2.2) (fun s => mu_23 s.1 s.2.1 s.2.2) (0, 0, w3) ⟨hA18.keep [(3, .int .i64 0), (7, Sl.v t_1_Kids), (8, .int .i64 (t_1_Kids.n : Int)), (9, .int .i64 0)] ⟨rfl, rfl, rfl, rfl, trivial⟩, rfl, h077⟩ ?_
  rintro ⟨d_19, x_20, w21⟩ a75 w_ ⟨hA75, hw_, hJ79⟩
  have hw_ : w21 = w_ := hw_.symm
  subst hw_
  have ht78 := ht76 d_19 x_20 _ hJ79
  refine wp_seq ?_
  refine wp_region_lit ?_
  refine sq (opk_val hA75 rfl (r_lss (hA75.get rfl) (hA75.get rfl)) fun a80 hA80 _ => ?_)
  refine sq_end ?_
  have hA81 := hA80.keep [(3, .int .i64 d_19), (7, Sl.v t_1_Kids), (8, .int .i64 (t_1_Kids.n : Int)), (9, .int .i64 x_20), (10, .bool (decide (x_20 < (t_1_Kids.n : Int))))] ⟨rfl, rfl, rfl, rfl, rfl, trivial⟩
  refine then_normal ?_
  refine wp_seq ?_
  refine wp_cond_split (hA81.get rfl) (fun hc => ?_) (fun hc => ?_)
  · have ht82 := ht78.1 (of_decide_eq_true hc)
    clear hc
    refine wp_skip ?_
    refine then_normal ?_
    refine wp_seq ?_
    refine wp_block ?_
    refine wp_seq ?_
    refine wp_region_lit ?_
    obtain ⟨hb85, p_84, hp86, ht87⟩ := ht82
    refine sq (opk_val hA81 rfl (r_indexAddr (hA81.get rfl) (hA81.get rfl) Try.underlying24 ti_26 hb85 hp86) fun a88 hA88 _ => ?_)
    obtain ⟨x_90_Kind, x_90_Name, x_90_Text, x_90_Attrs, x_90_Kids, hx91, ht92⟩ := ht87
    refine sq (opk_val hA88 rfl (r_loadN Try.underlying26 rfl ti_26 (hA88.get rfl) hx91) fun a89 hA89 _ => ?_)
    refine sq (opk_new (fun B => .pointer (some ⟨B, 0, none⟩)) hA89 rfl (r_alloc (cs := [.int .i64 0, .string (Bs ([] : Str)), .string (Bs ([] : Str)), Sl.v Sl.nil, Sl.v Sl.nil]) ti_26 rfl) fun a95 w94 B_93 hE96 hN97 hB98 hA95 _ => ?_)
    have hN99 : New w21 B_93 w94 := hN97
    have hC100 : Chg [] w21 w94 := hE96
    refine sq (opk_store hA95 hB98 (r_store (vs := [.int .i64 x_90_Kind, .string (Bs x_90_Name), .string (Bs x_90_Text), Sl.v x_90_Attrs, Sl.v x_90_Kids]) (hA95.get rfl) (hA95.get rfl) rfl ti_26 hB98 rfl (ones_all [.int .i64 x_90_Kind, .string (Bs x_90_Name), .string (Bs x_90_Text), Sl.v x_90_Attrs, Sl.v x_90_Kids] rfl)) fun a102 w101 hS103 hB104 hA102 => ?_)
    have hB105 : Box w101 B_93 26 [.int .i64 x_90_Kind, .string (Bs x_90_Name), .string (Bs x_90_Text), Sl.v x_90_Attrs, Sl.v x_90_Kids] := hB104
    have hC106 := hC100.storeNew hN99 hS103
    have hN107 := hN99.up hS103.size
    refine sq_end ?_
    have hA108 := hA102.keep [(3, .int .i64 d_19), (5, .pointer (some ⟨B_93, 0, none⟩)), (7, Sl.v t_1_Kids), (8, .int .i64 (t_1_Kids.n : Int)), (9, .int .i64 x_20)] ⟨rfl, rfl, rfl, rfl, rfl, trivial⟩
    refine then_normal ?_
    refine wp_region_lit ?_
    refine sq (opk_val hA108 rfl (r_move (hA108.get rfl)) fun a109 hA109 _ => ?_)
    refine sq (opk_val hA109 rfl (r_loadN (cs := [.int .i64 x_90_Kind, .string (Bs x_90_Name), .string (Bs x_90_Text), Sl.v x_90_Attrs, Sl.v x_90_Kids]) Try.underlying26 rfl ti_26 (hA109.get rfl) (hB105.part 0 _ rfl)) fun a110 hA110 _ => ?_)
    have ht111 := ht92 w101 B_93 hN107  hC106
    refine sq (opk_call hA110 rfl (r_call (args := #[.agg #[.int .i64 x_90_Kind, .string (Bs x_90_Name), .string (Bs x_90_Text), Sl.v x_90_Attrs, Sl.v x_90_Kids]]) Try.func18 (by decide) rfl (map_arr (ml_cons (hA110.get rfl) ml_nil)) rfl) ht111 fun a113 v119 w114 hA113 _ hn116 hz117 hK118 => ?_)
    obtain ⟨r_112, rfl, ht115⟩ := hK118
    have hB120 := hB105.kept hn116 (.head _)
    refine sq (opk_val hA113 rfl (r_max (hA113.get rfl) (hA113.get rfl)) fun a121 hA121 _ => ?_)
    refine sq (opk_val hA121 rfl (r_assign (hA121.get rfl)) fun a122 hA122 _ => ?_)
    refine sq_end ?_
    have hA123 := hA122.keep [(3, .int .i64 (max d_19 r_112)), (7, Sl.v t_1_Kids), (8, .int .i64 (t_1_Kids.n : Int)), (9, .int .i64 x_20)] ⟨rfl, rfl, rfl, rfl, trivial⟩
    refine block_normal ?_
    refine then_normal ?_
    refine wp_region_lit ?_
    obtain ⟨hS125, ht126⟩ := ht115
    refine sq (opk_val hA123 rfl (r_addI (hA123.get rfl) rfl hS125) fun a124 hA124 _ => ?_)
    refine sq (opk_val hA124 rfl (r_move (hA124.get rfl)) fun a127 hA127 _ => ?_)
    refine sq_end ?_
    have hA128 := hA127.keep [(3, .int .i64 (max d_19 r_112)), (7, Sl.v t_1_Kids), (8, .int .i64 (t_1_Kids.n : Int)), (9, .int .i64 (x_20 + 1))] ⟨rfl, rfl, rfl, rfl, trivial⟩
    have hA129 := hA128.keep [(3, .int .i64 (max d_19 r_112)), (7, Sl.v t_1_Kids), (8, .int .i64 (t_1_Kids.n : Int)), (9, .int .i64 (x_20 + 1))] ⟨rfl, rfl, rfl, rfl, trivial⟩
    exact then_normal ⟨(max d_19 r_112, x_20 + 1, w114), ⟨hA129, rfl, ht126.1⟩, ht126.2⟩
  · have ht83 := ht78.2 (of_decide_eq_false hc)
    clear hc
    refine wp_exit ?_
    refine then_exit ?_
    refine then_exit ?_
    refine block_hit ?_
    have hA130 := hA81.keep [(3, .int .i64 d_19)] ⟨rfl, trivial⟩
    refine then_normal ?_
    refine wp_seq ?_
    refine wp_region_lit ?_
    refine sq (opk_val hA130 rfl (r_move (hA130.get rfl)) fun a131 hA131 _ => ?_)
    obtain ⟨hS133, ht134⟩ := ht83
    refine sq (opk_val hA131 rfl (r_addI (hA131.get rfl) rfl hS133) fun a132 hA132 _ => ?_)
    refine sq (opk_val hA132 rfl (r_assign (hA132.get rfl)) fun a135 hA135 _ => ?_)
    refine sq_end ?_
    have hA136 := hA135.keep [(2, .int .i64 (d_19 + 1))] ⟨rfl, trivial⟩
    refine then_normal ?_
    refine wp_ret ?_
    exact res_all (vs := [.int .i64 (d_19 + 1)]) rfl hA136 ⟨res_of_tmp hA136 rfl, trivial⟩ ht134

/-- The condition of topiary/tree.Name. -/
def tree_Name.vc (s_1 : Str) (R : Value → World → Prop) (w : World) : Prop :=
(((s_1 = ([] : Str)) ∨ (32 < (s_1.length : Int))) →
R (.bool false) w) ∧
(((¬ (s_1 = ([] : Str))) ∧ (¬ (32 < (s_1.length : Int)))) →
∃ (J_22 : Int → World → Prop) (mu_23 : Int → World → Nat),
J_22 0 w ∧
(∀ (x_20 : Int) (w21 : World), J_22 x_20 w21 →
((x_20 < (s_1.length : Int)) →
((0 : Int) ≤ x_20 ∧ x_20 < (s_1.length : Int)) ∧
(((((s_1.getD x_20.toNat 0).toNat : Int) = 9) ∨ ((((s_1.getD x_20.toNat 0).toNat : Int) = 10) ∨ ((((s_1.getD x_20.toNat 0).toNat : Int) = 12) ∨ ((((s_1.getD x_20.toNat 0).toNat : Int) = 32) ∨ ((((s_1.getD x_20.toNat 0).toNat : Int) = 0) ∨ ((((s_1.getD x_20.toNat 0).toNat : Int) = 34) ∨ ((((s_1.getD x_20.toNat 0).toNat : Int) = 39) ∨ ((((s_1.getD x_20.toNat 0).toNat : Int) = 62) ∨ ((((s_1.getD x_20.toNat 0).toNat : Int) = 47) ∨ ((((s_1.getD x_20.toNat 0).toNat : Int) = 61) ∨ (((s_1.getD x_20.toNat 0).toNat : Int) = 60))))))))))) →
R (.bool false) w21) ∧
(((¬ (((s_1.getD x_20.toNat 0).toNat : Int) = 9)) ∧ ((¬ (((s_1.getD x_20.toNat 0).toNat : Int) = 10)) ∧ ((¬ (((s_1.getD x_20.toNat 0).toNat : Int) = 12)) ∧ ((¬ (((s_1.getD x_20.toNat 0).toNat : Int) = 32)) ∧ ((¬ (((s_1.getD x_20.toNat 0).toNat : Int) = 0)) ∧ ((¬ (((s_1.getD x_20.toNat 0).toNat : Int) = 34)) ∧ ((¬ (((s_1.getD x_20.toNat 0).toNat : Int) = 39)) ∧ ((¬ (((s_1.getD x_20.toNat 0).toNat : Int) = 62)) ∧ ((¬ (((s_1.getD x_20.toNat 0).toNat : Int) = 47)) ∧ ((¬ (((s_1.getD x_20.toNat 0).toNat : Int) = 61)) ∧ (¬ (((s_1.getD x_20.toNat 0).toNat : Int) = 60)))))))))))) →
(((65 ≤ ((s_1.getD x_20.toNat 0).toNat : Int)) ∧ (((s_1.getD x_20.toNat 0).toNat : Int) ≤ 90)) →
R (.bool false) w21) ∧
(((¬ (65 ≤ ((s_1.getD x_20.toNat 0).toNat : Int))) ∨ (¬ (((s_1.getD x_20.toNat 0).toNat : Int) ≤ 90))) →
(I64 (x_20 + 1)) ∧
J_22 (x_20 + 1) w21 ∧ mu_23 (x_20 + 1) w21 < mu_23 x_20 w21))) ∧
((¬ (x_20 < (s_1.length : Int))) →
R (.bool true) w21)))
set_option maxHeartbeats 1000000 in
set_option maxRecDepth 10000 in
theorem tree_Name.ok (s_1 : Str) {R : Value → World → Prop} {w : World} (ht0 : tree_Name.vc s_1 R w) : Calls Try.prog 19 #[.string (Bs s_1)] w (Ret R) := by
  refine enter [.string (Bs s_1)] Try.func19 rfl Try.ntmps19 rfl ?_
  intro a0 hA0
  unfold tree_Name.vc at ht0
  refine wp_seq ?_
  refine wp_region_lit ?_
  refine sq (opk_val hA0 rfl (r_assign rfl) fun a2 hA2 _ => ?_)
  refine sq_end ?_
  have hA3 := hA2.keep [(0, .string (Bs s_1))] ⟨rfl, trivial⟩
  refine then_normal ?_
  refine wp_seq ?_
  refine wp_seq ?_
  refine wp_region_lit ?_
  refine sq (opk_val hA3 rfl (r_move (hA3.get rfl)) fun a4 hA4 _ => ?_)
  refine sq (opk_val hA4 rfl (r_seql (hA4.get rfl) rfl) fun a5 hA5 _ => ?_)
  refine sq (opk_val hA5 rfl (r_move (hA5.get rfl)) fun a6 hA6 _ => ?_)
  refine sq (opk_gval hA6 rfl rfl (g := true) (e := (decide (s_1 = ([] : Str)))) rfl (fun hg => r_move (hA6.get rfl)) fun a7 hA7 _ => ?_)
  refine sq (opk_gval hA7 rfl rfl (g := true) (e := (decide (s_1 = ([] : Str)))) rfl (fun hg => r_slen (cv_get (hA7.get rfl) hg) Try.underlying9) fun a8 hA8 _ => ?_)
  refine sq (opk_gval hA8 rfl rfl (g := true) (e := (decide (s_1 = ([] : Str)))) rfl (fun hg => r_gtr (cv_get (hA8.get rfl) hg) rfl) fun a9 hA9 _ => ?_)
  refine sq (opk_val hA9 rfl (r_pick_or (g := (true && ((decide (s_1 = ([] : Str))) == false))) (hA9.get rfl) (hA9.get rfl) (fun he => g_mkf rfl he)) fun a10 hA10 _ => ?_)
  refine sq_end ?_
  have hA11 := hA10.keep [(0, .string (Bs s_1)), (11, .bool ((decide (s_1 = ([] : Str))) || (decide (32 < (s_1.length : Int)))))] ⟨rfl, rfl, trivial⟩
  refine then_normal ?_
  refine wp_cond_split (hA11.get rfl) (fun hc => ?_) (fun hc => ?_)
  · have ht12 := ht0.1 ((b_or_t hc).imp (fun h => (of_decide_eq_true h)) (fun h => (of_decide_eq_true h)))
    clear hc
    refine wp_seq ?_
    refine wp_region_lit ?_
    refine sq (opk_val hA11 rfl (r_assign rfl) fun a14 hA14 _ => ?_)
    refine sq_end ?_
    have hA15 := hA14.keep [(2, .bool false)] ⟨rfl, trivial⟩
    refine then_normal ?_
    refine wp_ret ?_
    refine then_ret ?_
    exact res_all (vs := [.bool false]) rfl hA15 ⟨res_of_tmp hA15 rfl, trivial⟩ ht12
  · have ht13 := ht0.2 ⟨(of_decide_eq_false (b_or_f hc).1), (of_decide_eq_false (b_or_f hc).2)⟩
    clear hc
    refine wp_skip ?_
    refine then_normal ?_
    refine wp_seq ?_
    refine wp_seq ?_
    refine wp_region_lit ?_
    refine sq (opk_val hA11 rfl (r_move (hA11.get rfl)) fun a16 hA16 _ => ?_)
    refine sq (opk_val hA16 rfl (r_slen (hA16.get rfl) Try.underlying9) fun a17 hA17 _ => ?_)
    refine sq (opk_val hA17 rfl (r_move rfl) fun a18 hA18 _ => ?_)
    refine sq_end ?_
    have hA19 := hA18.keep [(0, .string (Bs s_1)), (13, .int .i64 (s_1.length : Int)), (14, .int .i64 0)] ⟨rfl, rfl, rfl, trivial⟩
    refine then_normal ?_
    refine wp_block ?_
    obtain ⟨J_22, mu_23, h09273, ht9272⟩ := ht13
    refine wp_loop_st (σ := Int × World) (fun s a w => Ag 40 a [(0, .string (Bs s_1)), (13, .int .i64 (s_1.length : Int)), (14, .int .i64 s.1)] ∧ w = s.2 ∧ J_22 s.1 s.2) (fun s => mu_23 s.1 s.2) (0, w) ⟨hA19.keep [(0, .string (Bs s_1)), (13, .int .i64 (s_1.length : Int)), (14, .int .i64 0)] ⟨rfl, rfl, rfl, trivial⟩, rfl, h09273⟩ ?_
    rintro ⟨x_20, w21⟩ a9271 w_ ⟨hA9271, hw_, hJ9275⟩
    have hw_ : w21 = w_ := hw_.symm
    subst hw_
    have ht9274 := ht9272 x_20 _ hJ9275
    refine wp_seq ?_
    refine wp_region_lit ?_
    refine sq (opk_val hA9271 rfl (r_lss (hA9271.get rfl) (hA9271.get rfl)) fun a9276 hA9276 _ => ?_)
    refine sq_end ?_
    have hA9277 := hA9276.keep [(0, .string (Bs s_1)), (13, .int .i64 (s_1.length : Int)), (14, .int .i64 x_20), (15, .bool (decide (x_20 < (s_1.length : Int))))] ⟨rfl, rfl, rfl, rfl, trivial⟩
    refine then_normal ?_
    refine wp_seq ?_
    refine wp_cond_split (hA9277.get rfl) (fun hc => ?_) (fun hc => ?_)
    · have ht9278 := ht9274.1 (of_decide_eq_true hc)
      clear hc
      refine wp_skip ?_
      refine then_normal ?_
      refine wp_seq ?_
      refine wp_block ?_
      refine wp_seq ?_
      refine wp_region_lit ?_
      refine sq (opk_val hA9277 rfl (r_move (hA9277.get rfl)) fun a9280 hA9280 _ => ?_)
      refine sq (opk_val hA9280 rfl (r_assign (hA9280.get rfl)) fun a9281 hA9281 _ => ?_)
      refine sq_end ?_
      have hA9282 := hA9281.keep [(0, .string (Bs s_1)), (3, .int .i64 x_20), (13, .int .i64 (s_1.length : Int)), (14, .int .i64 x_20)] ⟨rfl, rfl, rfl, rfl, trivial⟩
      refine then_normal ?_
      refine wp_seq ?_
      refine wp_region_lit ?_
      refine sq (opk_val hA9282 rfl (r_move (hA9282.get rfl)) fun a9283 hA9283 _ => ?_)
      refine sq (opk_val hA9283 rfl (r_move (hA9283.get rfl)) fun a9284 hA9284 _ => ?_)
      obtain ⟨hS9286, ht9287⟩ := ht9278
      refine sq (opk_val hA9284 rfl (r_sindex (hA9284.get rfl) (hA9284.get rfl) Try.underlying9 hS9286) fun a9285 hA9285 _ => ?_)
      refine sq (opk_val hA9285 rfl (r_assign (hA9285.get rfl)) fun a9288 hA9288 _ => ?_)
      refine sq_end ?_
      have hA9289 := hA9288.keep [(0, .string (Bs s_1)), (4, .int .u8 ((s_1.getD x_20.toNat 0).toNat : Int)), (13, .int .i64 (s_1.length : Int)), (14, .int .i64 x_20)] ⟨rfl, rfl, rfl, rfl, trivial⟩
      refine then_normal ?_
      refine wp_seq ?_
      refine wp_region_lit ?_
      refine sq (opk_val hA9289 rfl (r_move (hA9289.get rfl)) fun a9290 hA9290 _ => ?_)
      refine sq_end ?_
      have hA9291 := hA9290.keep [(0, .string (Bs s_1)), (4, .int .u8 ((s_1.getD x_20.toNat 0).toNat : Int)), (13, .int .i64 (s_1.length : Int)), (14, .int .i64 x_20), (20, .int .u8 ((s_1.getD x_20.toNat 0).toNat : Int))] ⟨rfl, rfl, rfl, rfl, rfl, trivial⟩
      refine then_normal ?_
      refine wp_block ?_
      refine wp_seq ?_
      refine wp_seq ?_
      refine wp_region_lit ?_
      refine sq (opk_val hA9291 rfl (r_eql (hA9291.get rfl) rfl) fun a9292 hA9292 _ => ?_)
      refine sq (opk_val hA9292 rfl (r_assign (hA9292.get rfl)) fun a9293 hA9293 _ => ?_)
      refine sq_end ?_
      have hA9294 := hA9293.keep [(0, .string (Bs s_1)), (4, .int .u8 ((s_1.getD x_20.toNat 0).toNat : Int)), (13, .int .i64 (s_1.length : Int)), (14, .int .i64 x_20), (20, .int .u8 ((s_1.getD x_20.toNat 0).toNat : Int)), (27, .bool (decide (((s_1.getD x_20.toNat 0).toNat : Int) = 9)))] ⟨rfl, rfl, rfl, rfl, rfl, rfl, trivial⟩
      refine then_normal ?_
      refine wp_meet (fun a w => Ag 40 a [(0, .string (Bs s_1)), (4, .int .u8 ((s_1.getD x_20.toNat 0).toNat : Int)), (13, .int .i64 (s_1.length : Int)), (14, .int .i64 x_20), (27, .bool ((decide (((s_1.getD x_20.toNat 0).toNat : Int) = 9)) || ((decide (((s_1.getD x_20.toNat 0).toNat : Int) = 10)) || ((decide (((s_1.getD x_20.toNat 0).toNat : Int) = 12)) || ((decide (((s_1.getD x_20.toNat 0).toNat : Int) = 32)) || ((decide (((s_1.getD x_20.toNat 0).toNat : Int) = 0)) || ((decide (((s_1.getD x_20.toNat 0).toNat : Int) = 34)) || ((decide (((s_1.getD x_20.toNat 0).toNat : Int) = 39)) || ((decide (((s_1.getD x_20.toNat 0).toNat : Int) = 62)) || ((decide (((s_1.getD x_20.toNat 0).toNat : Int) = 47)) || ((decide (((s_1.getD x_20.toNat 0).toNat : Int) = 61)) || (decide (((s_1.getD x_20.toNat 0).toNat : Int) = 60)))))))))))))] ∧ w = w21) ?_ ?_
      · refine wp_cond_split (hA9294.get rfl) (fun hc => ?_) (fun hc => ?_)
        · refine wp_skip ?_
          have hA13897 := hA9294.say (t := 27) rfl (.bool ((decide (((s_1.getD x_20.toNat 0).toNat : Int) = 9)) || ((decide (((s_1.getD x_20.toNat 0).toNat : Int) = 10)) || ((decide (((s_1.getD x_20.toNat 0).toNat : Int) = 12)) || ((decide (((s_1.getD x_20.toNat 0).toNat : Int) = 32)) || ((decide (((s_1.getD x_20.toNat 0).toNat : Int) = 0)) || ((decide (((s_1.getD x_20.toNat 0).toNat : Int) = 34)) || ((decide (((s_1.getD x_20.toNat 0).toNat : Int) = 39)) || ((decide (((s_1.getD x_20.toNat 0).toNat : Int) = 62)) || ((decide (((s_1.getD x_20.toNat 0).toNat : Int) = 47)) || ((decide (((s_1.getD x_20.toNat 0).toNat : Int) = 61)) || (decide (((s_1.getD x_20.toNat 0).toNat : Int) = 60))))))))))))) (by rw [hc]; rfl)
          exact then_normal ⟨hA13897.keep [(0, .string (Bs s_1)), (4, .int .u8 ((s_1.getD x_20.toNat 0).toNat : Int)), (13, .int .i64 (s_1.length : Int)), (14, .int .i64 x_20), (27, .bool ((decide (((s_1.getD x_20.toNat 0).toNat : Int) = 9)) || ((decide (((s_1.getD x_20.toNat 0).toNat : Int) = 10)) || ((decide (((s_1.getD x_20.toNat 0).toNat : Int) = 12)) || ((decide (((s_1.getD x_20.toNat 0).toNat : Int) = 32)) || ((decide (((s_1.getD x_20.toNat 0).toNat : Int) = 0)) || ((decide (((s_1.getD x_20.toNat 0).toNat : Int) = 34)) || ((decide (((s_1.getD x_20.toNat 0).toNat : Int) = 39)) || ((decide (((s_1.getD x_20.toNat 0).toNat : Int) = 62)) || ((decide (((s_1.getD x_20.toNat 0).toNat : Int) = 47)) || ((decide (((s_1.getD x_20.toNat 0).toNat : Int) = 61)) || (decide (((s_1.getD x_20.toNat 0).toNat : Int) = 60)))))))))))))] ⟨rfl, rfl, rfl, rfl, rfl, trivial⟩, rfl⟩
        · refine wp_seq ?_
          refine wp_region_lit ?_
          refine sq (opk_val hA9294 rfl (r_eql (hA9294.get rfl) rfl) fun a13898 hA13898 _ => ?_)
          refine sq (opk_val hA13898 rfl (r_assign (hA13898.get rfl)) fun a13899 hA13899 _ => ?_)
          refine sq_end ?_
          have hA13900 := hA13899.keep [(0, .string (Bs s_1)), (4, .int .u8 ((s_1.getD x_20.toNat 0).toNat : Int)), (13, .int .i64 (s_1.length : Int)), (14, .int .i64 x_20), (20, .int .u8 ((s_1.getD x_20.toNat 0).toNat : Int)), (27, .bool (decide (((s_1.getD x_20.toNat 0).toNat : Int) = 10)))] ⟨rfl, rfl, rfl, rfl, rfl, rfl, trivial⟩
          refine then_normal ?_
          refine wp_meet (fun a w => Ag 40 a [(0, .string (Bs s_1)), (4, .int .u8 ((s_1.getD x_20.toNat 0).toNat : Int)), (13, .int .i64 (s_1.length : Int)), (14, .int .i64 x_20), (27, .bool ((decide (((s_1.getD x_20.toNat 0).toNat : Int) = 10)) || ((decide (((s_1.getD x_20.toNat 0).toNat : Int) = 12)) || ((decide (((s_1.getD x_20.toNat 0).toNat : Int) = 32)) || ((decide (((s_1.getD x_20.toNat 0).toNat : Int) = 0)) || ((decide (((s_1.getD x_20.toNat 0).toNat : Int) = 34)) || ((decide (((s_1.getD x_20.toNat 0).toNat : Int) = 39)) || ((decide (((s_1.getD x_20.toNat 0).toNat : Int) = 62)) || ((decide (((s_1.getD x_20.toNat 0).toNat : Int) = 47)) || ((decide (((s_1.getD x_20.toNat 0).toNat : Int) = 61)) || (decide (((s_1.getD x_20.toNat 0).toNat : Int) = 60))))))))))))] ∧ w = w21) ?_ ?_
          · refine wp_cond_split (hA13900.get rfl) (fun hc => ?_) (fun hc => ?_)
            · refine wp_skip ?_
              have hA16199 := hA13900.say (t := 27) rfl (.bool ((decide (((s_1.getD x_20.toNat 0).toNat : Int) = 10)) || ((decide (((s_1.getD x_20.toNat 0).toNat : Int) = 12)) || ((decide (((s_1.getD x_20.toNat 0).toNat : Int) = 32)) || ((decide (((s_1.getD x_20.toNat 0).toNat : Int) = 0)) || ((decide (((s_1.getD x_20.toNat 0).toNat : Int) = 34)) || ((decide (((s_1.getD x_20.toNat 0).toNat : Int) = 39)) || ((decide (((s_1.getD x_20.toNat 0).toNat : Int) = 62)) || ((decide (((s_1.getD x_20.toNat 0).toNat : Int) = 47)) || ((decide (((s_1.getD x_20.toNat 0).toNat : Int) = 61)) || (decide (((s_1.getD x_20.toNat 0).toNat : Int) = 60)))))))))))) (by rw [hc]; rfl)
              exact then_normal ⟨hA16199.keep [(0, .string (Bs s_1)), (4, .int .u8 ((s_1.getD x_20.toNat 0).toNat : Int)), (13, .int .i64 (s_1.length : Int)), (14, .int .i64 x_20), (27, .bool ((decide (((s_1.getD x_20.toNat 0).toNat : Int) = 10)) || ((decide (((s_1.getD x_20.toNat 0).toNat : Int) = 12)) || ((decide (((s_1.getD x_20.toNat 0).toNat : Int) = 32)) || ((decide (((s_1.getD x_20.toNat 0).toNat : Int) = 0)) || ((decide (((s_1.getD x_20.toNat 0).toNat : Int) = 34)) || ((decide (((s_1.getD x_20.toNat 0).toNat : Int) = 39)) || ((decide (((s_1.getD x_20.toNat 0).toNat : Int) = 62)) || ((decide (((s_1.getD x_20.toNat 0).toNat : Int) = 47)) || ((decide (((s_1.getD x_20.toNat 0).toNat : Int) = 61)) || (decide (((s_1.getD x_20.toNat 0).toNat : Int) = 60))))))))))))] ⟨rfl, rfl, rfl, rfl, rfl, trivial⟩, rfl⟩
            · refine wp_seq ?_
              refine wp_region_lit ?_
              refine sq (opk_val hA13900 rfl (r_eql (hA13900.get rfl) rfl) fun a16200 hA16200 _ => ?_)
              refine sq (opk_val hA16200 rfl (r_assign (hA16200.get rfl)) fun a16201 hA16201 _ => ?_)
              refine sq_end ?_
              have hA16202 := hA16201.keep [(0, .string (Bs s_1)), (4, .int .u8 ((s_1.getD x_20.toNat 0).toNat : Int)), (13, .int .i64 (s_1.length : Int)), (14, .int .i64 x_20), (20, .int .u8 ((s_1.getD x_20.toNat 0).toNat : Int)), (27, .bool (decide (((s_1.getD x_20.toNat 0).toNat : Int) = 12)))] ⟨rfl, rfl, rfl, rfl, rfl, rfl, trivial⟩
              refine then_normal ?_
              refine wp_meet (fun a w => Ag 40 a [(0, .string (Bs s_1)), (4, .int .u8 ((s_1.getD x_20.toNat 0).toNat : Int)), (13, .int .i64 (s_1.length : Int)), (14, .int .i64 x_20), (27, .bool ((decide (((s_1.getD x_20.toNat 0).toNat : Int) = 12)) || ((decide (((s_1.getD x_20.toNat 0).toNat : Int) = 32)) || ((decide (((s_1.getD x_20.toNat 0).toNat : Int) = 0)) || ((decide (((s_1.getD x_20.toNat 0).toNat : Int) = 34)) || ((decide (((s_1.getD x_20.toNat 0).toNat : Int) = 39)) || ((decide (((s_1.getD x_20.toNat 0).toNat : Int) = 62)) || ((decide (((s_1.getD x_20.toNat 0).toNat : Int) = 47)) || ((decide (((s_1.getD x_20.toNat 0).toNat : Int) = 61)) || (decide (((s_1.getD x_20.toNat 0).toNat : Int) = 60)))))))))))] ∧ w = w21) ?_ ?_
              · refine wp_cond_split (hA16202.get rfl) (fun hc => ?_) (fun hc => ?_)
                · refine wp_skip ?_
                  have hA17349 := hA16202.say (t := 27) rfl (.bool ((decide (((s_1.getD x_20.toNat 0).toNat : Int) = 12)) || ((decide (((s_1.getD x_20.toNat 0).toNat : Int) = 32)) || ((decide (((s_1.getD x_20.toNat 0).toNat : Int) = 0)) || ((decide (((s_1.getD x_20.toNat 0).toNat : Int) = 34)) || ((decide (((s_1.getD x_20.toNat 0).toNat : Int) = 39)) || ((decide (((s_1.getD x_20.toNat 0).toNat : Int) = 62)) || ((decide (((s_1.getD x_20.toNat 0).toNat : Int) = 47)) || ((decide (((s_1.getD x_20.toNat 0).toNat : Int) = 61)) || (decide (((s_1.getD x_20.toNat 0).toNat : Int) = 60))))))))))) (by rw [hc]; rfl)
                  exact then_normal ⟨hA17349.keep [(0, .string (Bs s_1)), (4, .int .u8 ((s_1.getD x_20.toNat 0).toNat : Int)), (13, .int .i64 (s_1.length : Int)), (14, .int .i64 x_20), (27, .bool ((decide (((s_1.getD x_20.toNat 0).toNat : Int) = 12)) || ((decide (((s_1.getD x_20.toNat 0).toNat : Int) = 32)) || ((decide (((s_1.getD x_20.toNat 0).toNat : Int) = 0)) || ((decide (((s_1.getD x_20.toNat 0).toNat : Int) = 34)) || ((decide (((s_1.getD x_20.toNat 0).toNat : Int) = 39)) || ((decide (((s_1.getD x_20.toNat 0).toNat : Int) = 62)) || ((decide (((s_1.getD x_20.toNat 0).toNat : Int) = 47)) || ((decide (((s_1.getD x_20.toNat 0).toNat : Int) = 61)) || (decide (((s_1.getD x_20.toNat 0).toNat : Int) = 60)))))))))))] ⟨rfl, rfl, rfl, rfl, rfl, trivial⟩, rfl⟩
                · refine wp_seq ?_
                  refine wp_region_lit ?_
                  refine sq (opk_val hA16202 rfl (r_eql (hA16202.get rfl) rfl) fun a17350 hA17350 _ => ?_)
                  refine sq (opk_val hA17350 rfl (r_assign (hA17350.get rfl)) fun a17351 hA17351 _ => ?_)
                  refine sq_end ?_
                  have hA17352 := hA17351.keep [(0, .string (Bs s_1)), (4, .int .u8 ((s_1.getD x_20.toNat 0).toNat : Int)), (13, .int .i64 (s_1.length : Int)), (14, .int .i64 x_20), (20, .int .u8 ((s_1.getD x_20.toNat 0).toNat : Int)), (27, .bool (decide (((s_1.getD x_20.toNat 0).toNat : Int) = 32)))] ⟨rfl, rfl, rfl, rfl, rfl, rfl, trivial⟩
                  refine then_normal ?_
                  refine wp_meet (fun a w => Ag 40 a [(0, .string (Bs s_1)), (4, .int .u8 ((s_1.getD x_20.toNat 0).toNat : Int)), (13, .int .i64 (s_1.length : Int)), (14, .int .i64 x_20), (27, .bool ((decide (((s_1.getD x_20.toNat 0).toNat : Int) = 32)) || ((decide (((s_1.getD x_20.toNat 0).toNat : Int) = 0)) || ((decide (((s_1.getD x_20.toNat 0).toNat : Int) = 34)) || ((decide (((s_1.getD x_20.toNat 0).toNat : Int) = 39)) || ((decide (((s_1.getD x_20.toNat 0).toNat : Int) = 62)) || ((decide (((s_1.getD x_20.toNat 0).toNat : Int) = 47)) || ((decide (((s_1.getD x_20.toNat 0).toNat : Int) = 61)) || (decide (((s_1.getD x_20.toNat 0).toNat : Int) = 60))))))))))] ∧ w = w21) ?_ ?_
                  · refine wp_cond_split (hA17352.get rfl) (fun hc => ?_) (fun hc => ?_)
                    · refine wp_skip ?_
                      have hA17923 := hA17352.say (t := 27) rfl (.bool ((decide (((s_1.getD x_20.toNat 0).toNat : Int) = 32)) || ((decide (((s_1.getD x_20.toNat 0).toNat : Int) = 0)) || ((decide (((s_1.getD x_20.toNat 0).toNat : Int) = 34)) || ((decide (((s_1.getD x_20.toNat 0).toNat : Int) = 39)) || ((decide (((s_1.getD x_20.toNat 0).toNat : Int) = 62)) || ((decide (((s_1.getD x_20.toNat 0).toNat : Int) = 47)) || ((decide (((s_1.getD x_20.toNat 0).toNat : Int) = 61)) || (decide (((s_1.getD x_20.toNat 0).toNat : Int) = 60)))))))))) (by rw [hc]; rfl)
                      exact then_normal ⟨hA17923.keep [(0, .string (Bs s_1)), (4, .int .u8 ((s_1.getD x_20.toNat 0).toNat : Int)), (13, .int .i64 (s_1.length : Int)), (14, .int .i64 x_20), (27, .bool ((decide (((s_1.getD x_20.toNat 0).toNat : Int) = 32)) || ((decide (((s_1.getD x_20.toNat 0).toNat : Int) = 0)) || ((decide (((s_1.getD x_20.toNat 0).toNat : Int) = 34)) || ((decide (((s_1.getD x_20.toNat 0).toNat : Int) = 39)) || ((decide (((s_1.getD x_20.toNat 0).toNat : Int) = 62)) || ((decide (((s_1.getD x_20.toNat 0).toNat : Int) = 47)) || ((decide (((s_1.getD x_20.toNat 0).toNat : Int) = 61)) || (decide (((s_1.getD x_20.toNat 0).toNat : Int) = 60))))))))))] ⟨rfl, rfl, rfl, rfl, rfl, trivial⟩, rfl⟩
                    · refine wp_seq ?_
                      refine wp_region_lit ?_
                      refine sq (opk_val hA17352 rfl (r_eql (hA17352.get rfl) rfl) fun a17924 hA17924 _ => ?_)
                      refine sq (opk_val hA17924 rfl (r_assign (hA17924.get rfl)) fun a17925 hA17925 _ => ?_)
                      refine sq_end ?_
                      have hA17926 := hA17925.keep [(0, .string (Bs s_1)), (4, .int .u8 ((s_1.getD x_20.toNat 0).toNat : Int)), (13, .int .i64 (s_1.length : Int)), (14, .int .i64 x_20), (20, .int .u8 ((s_1.getD x_20.toNat 0).toNat : Int)), (27, .bool (decide (((s_1.getD x_20.toNat 0).toNat : Int) = 0)))] ⟨rfl, rfl, rfl, rfl, rfl, rfl, trivial⟩
                      refine then_normal ?_
                      refine wp_meet (fun a w => Ag 40 a [(0, .string (Bs s_1)), (4, .int .u8 ((s_1.getD x_20.toNat 0).toNat : Int)), (13, .int .i64 (s_1.length : Int)), (14, .int .i64 x_20), (27, .bool ((decide (((s_1.getD x_20.toNat 0).toNat : Int) = 0)) || ((decide (((s_1.getD x_20.toNat 0).toNat : Int) = 34)) || ((decide (((s_1.getD x_20.toNat 0).toNat : Int) = 39)) || ((decide (((s_1.getD x_20.toNat 0).toNat : Int) = 62)) || ((decide (((s_1.getD x_20.toNat 0).toNat : Int) = 47)) || ((decide (((s_1.getD x_20.toNat 0).toNat : Int) = 61)) || (decide (((s_1.getD x_20.toNat 0).toNat : Int) = 60)))))))))] ∧ w = w21) ?_ ?_
                      · refine wp_cond_split (hA17926.get rfl) (fun hc => ?_) (fun hc => ?_)
                        · refine wp_skip ?_
                          have hA18209 := hA17926.say (t := 27) rfl (.bool ((decide (((s_1.getD x_20.toNat 0).toNat : Int) = 0)) || ((decide (((s_1.getD x_20.toNat 0).toNat : Int) = 34)) || ((decide (((s_1.getD x_20.toNat 0).toNat : Int) = 39)) || ((decide (((s_1.getD x_20.toNat 0).toNat : Int) = 62)) || ((decide (((s_1.getD x_20.toNat 0).toNat : Int) = 47)) || ((decide (((s_1.getD x_20.toNat 0).toNat : Int) = 61)) || (decide (((s_1.getD x_20.toNat 0).toNat : Int) = 60))))))))) (by rw [hc]; rfl)
                          exact then_normal ⟨hA18209.keep [(0, .string (Bs s_1)), (4, .int .u8 ((s_1.getD x_20.toNat 0).toNat : Int)), (13, .int .i64 (s_1.length : Int)), (14, .int .i64 x_20), (27, .bool ((decide (((s_1.getD x_20.toNat 0).toNat : Int) = 0)) || ((decide (((s_1.getD x_20.toNat 0).toNat : Int) = 34)) || ((decide (((s_1.getD x_20.toNat 0).toNat : Int) = 39)) || ((decide (((s_1.getD x_20.toNat 0).toNat : Int) = 62)) || ((decide (((s_1.getD x_20.toNat 0).toNat : Int) = 47)) || ((decide (((s_1.getD x_20.toNat 0).toNat : Int) = 61)) || (decide (((s_1.getD x_20.toNat 0).toNat : Int) = 60)))))))))] ⟨rfl, rfl, rfl, rfl, rfl, trivial⟩, rfl⟩
                        · refine wp_seq ?_
                          refine wp_region_lit ?_
                          refine sq (opk_val hA17926 rfl (r_eql (hA17926.get rfl) rfl) fun a18210 hA18210 _ => ?_)
                          refine sq (opk_val hA18210 rfl (r_assign (hA18210.get rfl)) fun a18211 hA18211 _ => ?_)
                          refine sq_end ?_
                          have hA18212 := hA18211.keep [(0, .string (Bs s_1)), (4, .int .u8 ((s_1.getD x_20.toNat 0).toNat : Int)), (13, .int .i64 (s_1.length : Int)), (14, .int .i64 x_20), (20, .int .u8 ((s_1.getD x_20.toNat 0).toNat : Int)), (27, .bool (decide (((s_1.getD x_20.toNat 0).toNat : Int) = 34)))] ⟨rfl, rfl, rfl, rfl, rfl, rfl, trivial⟩
                          refine then_normal ?_
                          refine wp_meet (fun a w => Ag 40 a [(0, .string (Bs s_1)), (4, .int .u8 ((s_1.getD x_20.toNat 0).toNat : Int)), (13, .int .i64 (s_1.length : Int)), (14, .int .i64 x_20), (27, .bool ((decide (((s_1.getD x_20.toNat 0).toNat : Int) = 34)) || ((decide (((s_1.getD x_20.toNat 0).toNat : Int) = 39)) || ((decide (((s_1.getD x_20.toNat 0).toNat : Int) = 62)) || ((decide (((s_1.getD x_20.toNat 0).toNat : Int) = 47)) || ((decide (((s_1.getD x_20.toNat 0).toNat : Int) = 61)) || (decide (((s_1.getD x_20.toNat 0).toNat : Int) = 60))))))))] ∧ w = w21) ?_ ?_
                          · refine wp_cond_split (hA18212.get rfl) (fun hc => ?_) (fun hc => ?_)
                            · refine wp_skip ?_
                              have hA18351 := hA18212.say (t := 27) rfl (.bool ((decide (((s_1.getD x_20.toNat 0).toNat : Int) = 34)) || ((decide (((s_1.getD x_20.toNat 0).toNat : Int) = 39)) || ((decide (((s_1.getD x_20.toNat 0).toNat : Int) = 62)) || ((decide (((s_1.getD x_20.toNat 0).toNat : Int) = 47)) || ((decide (((s_1.getD x_20.toNat 0).toNat : Int) = 61)) || (decide (((s_1.getD x_20.toNat 0).toNat : Int) = 60)))))))) (by rw [hc]; rfl)
                              exact then_normal ⟨hA18351.keep [(0, .string (Bs s_1)), (4, .int .u8 ((s_1.getD x_20.toNat 0).toNat : Int)), (13, .int .i64 (s_1.length : Int)), (14, .int .i64 x_20), (27, .bool ((decide (((s_1.getD x_20.toNat 0).toNat : Int) = 34)) || ((decide (((s_1.getD x_20.toNat 0).toNat : Int) = 39)) || ((decide (((s_1.getD x_20.toNat 0).toNat : Int) = 62)) || ((decide (((s_1.getD x_20.toNat 0).toNat : Int) = 47)) || ((decide (((s_1.getD x_20.toNat 0).toNat : Int) = 61)) || (decide (((s_1.getD x_20.toNat 0).toNat : Int) = 60))))))))] ⟨rfl, rfl, rfl, rfl, rfl, trivial⟩, rfl⟩
                            · refine wp_seq ?_
                              refine wp_region_lit ?_
                              refine sq (opk_val hA18212 rfl (r_eql (hA18212.get rfl) rfl) fun a18352 hA18352 _ => ?_)
                              refine sq (opk_val hA18352 rfl (r_assign (hA18352.get rfl)) fun a18353 hA18353 _ => ?_)
                              refine sq_end ?_
                              have hA18354 := hA18353.keep [(0, .string (Bs s_1)), (4, .int .u8 ((s_1.getD x_20.toNat 0).toNat : Int)), (13, .int .i64 (s_1.length : Int)), (14, .int .i64 x_20), (20, .int .u8 ((s_1.getD x_20.toNat 0).toNat : Int)), (27, .bool (decide (((s_1.getD x_20.toNat 0).toNat : Int) = 39)))] ⟨rfl, rfl, rfl, rfl, rfl, rfl, trivial⟩
                              refine then_normal ?_
                              refine wp_meet (fun a w => Ag 40 a [(0, .string (Bs s_1)), (4, .int .u8 ((s_1.getD x_20.toNat 0).toNat : Int)), (13, .int .i64 (s_1.length : Int)), (14, .int .i64 x_20), (27, .bool ((decide (((s_1.getD x_20.toNat 0).toNat : Int) = 39)) || ((decide (((s_1.getD x_20.toNat 0).toNat : Int) = 62)) || ((decide (((s_1.getD x_20.toNat 0).toNat : Int) = 47)) || ((decide (((s_1.getD x_20.toNat 0).toNat : Int) = 61)) || (decide (((s_1.getD x_20.toNat 0).toNat : Int) = 60)))))))] ∧ w = w21) ?_ ?_
                              · refine wp_cond_split (hA18354.get rfl) (fun hc => ?_) (fun hc => ?_)
                                · refine wp_skip ?_
                                  have hA18421 := hA18354.say (t := 27) rfl (.bool ((decide (((s_1.getD x_20.toNat 0).toNat : Int) = 39)) || ((decide (((s_1.getD x_20.toNat 0).toNat : Int) = 62)) || ((decide (((s_1.getD x_20.toNat 0).toNat : Int) = 47)) || ((decide (((s_1.getD x_20.toNat 0).toNat : Int) = 61)) || (decide (((s_1.getD x_20.toNat 0).toNat : Int) = 60))))))) (by rw [hc]; rfl)
                                  exact then_normal ⟨hA18421.keep [(0, .string (Bs s_1)), (4, .int .u8 ((s_1.getD x_20.toNat 0).toNat : Int)), (13, .int .i64 (s_1.length : Int)), (14, .int .i64 x_20), (27, .bool ((decide (((s_1.getD x_20.toNat 0).toNat : Int) = 39)) || ((decide (((s_1.getD x_20.toNat 0).toNat : Int) = 62)) || ((decide (((s_1.getD x_20.toNat 0).toNat : Int) = 47)) || ((decide (((s_1.getD x_20.toNat 0).toNat : Int) = 61)) || (decide (((s_1.getD x_20.toNat 0).toNat : Int) = 60)))))))] ⟨rfl, rfl, rfl, rfl, rfl, trivial⟩, rfl⟩
                                · refine wp_seq ?_
                                  refine wp_region_lit ?_
                                  refine sq (opk_val hA18354 rfl (r_eql (hA18354.get rfl) rfl) fun a18422 hA18422 _ => ?_)
                                  refine sq (opk_val hA18422 rfl (r_assign (hA18422.get rfl)) fun a18423 hA18423 _ => ?_)
                                  refine sq_end ?_
                                  have hA18424 := hA18423.keep [(0, .string (Bs s_1)), (4, .int .u8 ((s_1.getD x_20.toNat 0).toNat : Int)), (13, .int .i64 (s_1.length : Int)), (14, .int .i64 x_20), (20, .int .u8 ((s_1.getD x_20.toNat 0).toNat : Int)), (27, .bool (decide (((s_1.getD x_20.toNat 0).toNat : Int) = 62)))] ⟨rfl, rfl, rfl, rfl, rfl, rfl, trivial⟩
                                  refine then_normal ?_
                                  refine wp_meet (fun a w => Ag 40 a [(0, .string (Bs s_1)), (4, .int .u8 ((s_1.getD x_20.toNat 0).toNat : Int)), (13, .int .i64 (s_1.length : Int)), (14, .int .i64 x_20), (27, .bool ((decide (((s_1.getD x_20.toNat 0).toNat : Int) = 62)) || ((decide (((s_1.getD x_20.toNat 0).toNat : Int) = 47)) || ((decide (((s_1.getD x_20.toNat 0).toNat : Int) = 61)) || (decide (((s_1.getD x_20.toNat 0).toNat : Int) = 60))))))] ∧ w = w21) ?_ ?_
                                  · refine wp_cond_split (hA18424.get rfl) (fun hc => ?_) (fun hc => ?_)
                                    · refine wp_skip ?_
                                      have hA18455 := hA18424.say (t := 27) rfl (.bool ((decide (((s_1.getD x_20.toNat 0).toNat : Int) = 62)) || ((decide (((s_1.getD x_20.toNat 0).toNat : Int) = 47)) || ((decide (((s_1.getD x_20.toNat 0).toNat : Int) = 61)) || (decide (((s_1.getD x_20.toNat 0).toNat : Int) = 60)))))) (by rw [hc]; rfl)
                                      exact then_normal ⟨hA18455.keep [(0, .string (Bs s_1)), (4, .int .u8 ((s_1.getD x_20.toNat 0).toNat : Int)), (13, .int .i64 (s_1.length : Int)), (14, .int .i64 x_20), (27, .bool ((decide (((s_1.getD x_20.toNat 0).toNat : Int) = 62)) || ((decide (((s_1.getD x_20.toNat 0).toNat : Int) = 47)) || ((decide (((s_1.getD x_20.toNat 0).toNat : Int) = 61)) || (decide (((s_1.getD x_20.toNat 0).toNat : Int) = 60))))))] ⟨rfl, rfl, rfl, rfl, rfl, trivial⟩, rfl⟩
                                    · refine wp_seq ?_
                                      refine wp_region_lit ?_
                                      refine sq (opk_val hA18424 rfl (r_eql (hA18424.get rfl) rfl) fun a18456 hA18456 _ => ?_)
                                      refine sq (opk_val hA18456 rfl (r_assign (hA18456.get rfl)) fun a18457 hA18457 _ => ?_)
                                      refine sq_end ?_
                                      have hA18458 := hA18457.keep [(0, .string (Bs s_1)), (4, .int .u8 ((s_1.getD x_20.toNat 0).toNat : Int)), (13, .int .i64 (s_1.length : Int)), (14, .int .i64 x_20), (20, .int .u8 ((s_1.getD x_20.toNat 0).toNat : Int)), (27, .bool (decide (((s_1.getD x_20.toNat 0).toNat : Int) = 47)))] ⟨rfl, rfl, rfl, rfl, rfl, rfl, trivial⟩
                                      refine then_normal ?_
                                      refine wp_meet (fun a w => Ag 40 a [(0, .string (Bs s_1)), (4, .int .u8 ((s_1.getD x_20.toNat 0).toNat : Int)), (13, .int .i64 (s_1.length : Int)), (14, .int .i64 x_20), (27, .bool ((decide (((s_1.getD x_20.toNat 0).toNat : Int) = 47)) || ((decide (((s_1.getD x_20.toNat 0).toNat : Int) = 61)) || (decide (((s_1.getD x_20.toNat 0).toNat : Int) = 60)))))] ∧ w = w21) ?_ ?_
                                      · refine wp_cond_split (hA18458.get rfl) (fun hc => ?_) (fun hc => ?_)
                                        · refine wp_skip ?_
                                          have hA18471 := hA18458.say (t := 27) rfl (.bool ((decide (((s_1.getD x_20.toNat 0).toNat : Int) = 47)) || ((decide (((s_1.getD x_20.toNat 0).toNat : Int) = 61)) || (decide (((s_1.getD x_20.toNat 0).toNat : Int) = 60))))) (by rw [hc]; rfl)
                                          exact then_normal ⟨hA18471.keep [(0, .string (Bs s_1)), (4, .int .u8 ((s_1.getD x_20.toNat 0).toNat : Int)), (13, .int .i64 (s_1.length : Int)), (14, .int .i64 x_20), (27, .bool ((decide (((s_1.getD x_20.toNat 0).toNat : Int) = 47)) || ((decide (((s_1.getD x_20.toNat 0).toNat : Int) = 61)) || (decide (((s_1.getD x_20.toNat 0).toNat : Int) = 60)))))] ⟨rfl, rfl, rfl, rfl, rfl, trivial⟩, rfl⟩
                                        · refine wp_seq ?_
                                          refine wp_region_lit ?_
                                          refine sq (opk_val hA18458 rfl (r_eql (hA18458.get rfl) rfl) fun a18472 hA18472 _ => ?_)
                                          refine sq (opk_val hA18472 rfl (r_assign (hA18472.get rfl)) fun a18473 hA18473 _ => ?_)
                                          refine sq_end ?_
                                          have hA18474 := hA18473.keep [(0, .string (Bs s_1)), (4, .int .u8 ((s_1.getD x_20.toNat 0).toNat : Int)), (13, .int .i64 (s_1.length : Int)), (14, .int .i64 x_20), (20, .int .u8 ((s_1.getD x_20.toNat 0).toNat : Int)), (27, .bool (decide (((s_1.getD x_20.toNat 0).toNat : Int) = 61)))] ⟨rfl, rfl, rfl, rfl, rfl, rfl, trivial⟩
                                          refine then_normal ?_
                                          refine wp_meet (fun a w => Ag 40 a [(0, .string (Bs s_1)), (4, .int .u8 ((s_1.getD x_20.toNat 0).toNat : Int)), (13, .int .i64 (s_1.length : Int)), (14, .int .i64 x_20), (27, .bool ((decide (((s_1.getD x_20.toNat 0).toNat : Int) = 61)) || (decide (((s_1.getD x_20.toNat 0).toNat : Int) = 60))))] ∧ w = w21) ?_ ?_
                                          · refine wp_cond_split (hA18474.get rfl) (fun hc => ?_) (fun hc => ?_)
                                            · refine wp_skip ?_
                                              have hA18478 := hA18474.say (t := 27) rfl (.bool ((decide (((s_1.getD x_20.toNat 0).toNat : Int) = 61)) || (decide (((s_1.getD x_20.toNat 0).toNat : Int) = 60)))) (by rw [hc]; rfl)
                                              exact then_normal ⟨hA18478.keep [(0, .string (Bs s_1)), (4, .int .u8 ((s_1.getD x_20.toNat 0).toNat : Int)), (13, .int .i64 (s_1.length : Int)), (14, .int .i64 x_20), (27, .bool ((decide (((s_1.getD x_20.toNat 0).toNat : Int) = 61)) || (decide (((s_1.getD x_20.toNat 0).toNat : Int) = 60))))] ⟨rfl, rfl, rfl, rfl, rfl, trivial⟩, rfl⟩
                                            · refine wp_region_lit ?_
                                              refine sq (opk_val hA18474 rfl (r_eql (hA18474.get rfl) rfl) fun a18479 hA18479 _ => ?_)
                                              refine sq (opk_val hA18479 rfl (r_assign (hA18479.get rfl)) fun a18480 hA18480 _ => ?_)
                                              refine sq_end ?_
                                              have hA18481 := hA18480.keep [(0, .string (Bs s_1)), (4, .int .u8 ((s_1.getD x_20.toNat 0).toNat : Int)), (13, .int .i64 (s_1.length : Int)), (14, .int .i64 x_20), (27, .bool (decide (((s_1.getD x_20.toNat 0).toNat : Int) = 60)))] ⟨rfl, rfl, rfl, rfl, rfl, trivial⟩
                                              have hA18482 := hA18481.say (t := 27) rfl (.bool ((decide (((s_1.getD x_20.toNat 0).toNat : Int) = 61)) || (decide (((s_1.getD x_20.toNat 0).toNat : Int) = 60)))) (by rw [hc]; rfl)
                                              exact then_normal ⟨hA18482.keep [(0, .string (Bs s_1)), (4, .int .u8 ((s_1.getD x_20.toNat 0).toNat : Int)), (13, .int .i64 (s_1.length : Int)), (14, .int .i64 x_20), (27, .bool ((decide (((s_1.getD x_20.toNat 0).toNat : Int) = 61)) || (decide (((s_1.getD x_20.toNat 0).toNat : Int) = 60))))] ⟨rfl, rfl, rfl, rfl, rfl, trivial⟩, rfl⟩
                                          · rintro a18483 w_ ⟨hA18483, hw_⟩
                                            have hw_ : w21 = w_ := hw_.symm
                                            subst hw_
                                            have hA18484 := hA18483.say (t := 27) rfl (.bool ((decide (((s_1.getD x_20.toNat 0).toNat : Int) = 47)) || ((decide (((s_1.getD x_20.toNat 0).toNat : Int) = 61)) || (decide (((s_1.getD x_20.toNat 0).toNat : Int) = 60))))) (by rw [hc]; rfl)
                                            exact then_normal ⟨hA18484.keep [(0, .string (Bs s_1)), (4, .int .u8 ((s_1.getD x_20.toNat 0).toNat : Int)), (13, .int .i64 (s_1.length : Int)), (14, .int .i64 x_20), (27, .bool ((decide (((s_1.getD x_20.toNat 0).toNat : Int) = 47)) || ((decide (((s_1.getD x_20.toNat 0).toNat : Int) = 61)) || (decide (((s_1.getD x_20.toNat 0).toNat : Int) = 60)))))] ⟨rfl, rfl, rfl, rfl, rfl, trivial⟩, rfl⟩
                                      · rintro a18485 w_ ⟨hA18485, hw_⟩
                                        have hw_ : w21 = w_ := hw_.symm
                                        subst hw_
                                        have hA18486 := hA18485.say (t := 27) rfl (.bool ((decide (((s_1.getD x_20.toNat 0).toNat : Int) = 62)) || ((decide (((s_1.getD x_20.toNat 0).toNat : Int) = 47)) || ((decide (((s_1.getD x_20.toNat 0).toNat : Int) = 61)) || (decide (((s_1.getD x_20.toNat 0).toNat : Int) = 60)))))) (by rw [hc]; rfl)
                                        exact then_normal ⟨hA18486.keep [(0, .string (Bs s_1)), (4, .int .u8 ((s_1.getD x_20.toNat 0).toNat : Int)), (13, .int .i64 (s_1.length : Int)), (14, .int .i64 x_20), (27, .bool ((decide (((s_1.getD x_20.toNat 0).toNat : Int) = 62)) || ((decide (((s_1.getD x_20.toNat 0).toNat : Int) = 47)) || ((decide (((s_1.getD x_20.toNat 0).toNat : Int) = 61)) || (decide (((s_1.getD x_20.toNat 0).toNat : Int) = 60))))))] ⟨rfl, rfl, rfl, rfl, rfl, trivial⟩, rfl⟩
                                  · rintro a18487 w_ ⟨hA18487, hw_⟩
                                    have hw_ : w21 = w_ := hw_.symm
                                    subst hw_
                                    have hA18488 := hA18487.say (t := 27) rfl (.bool ((decide (((s_1.getD x_20.toNat 0).toNat : Int) = 39)) || ((decide (((s_1.getD x_20.toNat 0).toNat : Int) = 62)) || ((decide (((s_1.getD x_20.toNat 0).toNat : Int) = 47)) || ((decide (((s_1.getD x_20.toNat 0).toNat : Int) = 61)) || (decide (((s_1.getD x_20.toNat 0).toNat : Int) = 60))))))) (by rw [hc]; rfl)
                                    exact then_normal ⟨hA18488.keep [(0, .string (Bs s_1)), (4, .int .u8 ((s_1.getD x_20.toNat 0).toNat : Int)), (13, .int .i64 (s_1.length : Int)), (14, .int .i64 x_20), (27, .bool ((decide (((s_1.getD x_20.toNat 0).toNat : Int) = 39)) || ((decide (((s_1.getD x_20.toNat 0).toNat : Int) = 62)) || ((decide (((s_1.getD x_20.toNat 0).toNat : Int) = 47)) || ((decide (((s_1.getD x_20.toNat 0).toNat : Int) = 61)) || (decide (((s_1.getD x_20.toNat 0).toNat : Int) = 60)))))))] ⟨rfl, rfl, rfl, rfl, rfl, trivial⟩, rfl⟩
                              · rintro a18489 w_ ⟨hA18489, hw_⟩
                                have hw_ : w21 = w_ := hw_.symm
                                subst hw_
                                have hA18490 := hA18489.say (t := 27) rfl (.bool ((decide (((s_1.getD x_20.toNat 0).toNat : Int) = 34)) || ((decide (((s_1.getD x_20.toNat 0).toNat : Int) = 39)) || ((decide (((s_1.getD x_20.toNat 0).toNat : Int) = 62)) || ((decide (((s_1.getD x_20.toNat 0).toNat : Int) = 47)) || ((decide (((s_1.getD x_20.toNat 0).toNat : Int) = 61)) || (decide (((s_1.getD x_20.toNat 0).toNat : Int) = 60)))))))) (by rw [hc]; rfl)
                                exact then_normal ⟨hA18490.keep [(0, .string (Bs s_1)), (4, .int .u8 ((s_1.getD x_20.toNat 0).toNat : Int)), (13, .int .i64 (s_1.length : Int)), (14, .int .i64 x_20), (27, .bool ((decide (((s_1.getD x_20.toNat 0).toNat : Int) = 34)) || ((decide (((s_1.getD x_20.toNat 0).toNat : Int) = 39)) || ((decide (((s_1.getD x_20.toNat 0).toNat : Int) = 62)) || ((decide (((s_1.getD x_20.toNat 0).toNat : Int) = 47)) || ((decide (((s_1.getD x_20.toNat 0).toNat : Int) = 61)) || (decide (((s_1.getD x_20.toNat 0).toNat : Int) = 60))))))))] ⟨rfl, rfl, rfl, rfl, rfl, trivial⟩, rfl⟩
                          · rintro a18491 w_ ⟨hA18491, hw_⟩
                            have hw_ : w21 = w_ := hw_.symm
                            subst hw_
                            have hA18492 := hA18491.say (t := 27) rfl (.bool ((decide (((s_1.getD x_20.toNat 0).toNat : Int) = 0)) || ((decide (((s_1.getD x_20.toNat 0).toNat : Int) = 34)) || ((decide (((s_1.getD x_20.toNat 0).toNat : Int) = 39)) || ((decide (((s_1.getD x_20.toNat 0).toNat : Int) = 62)) || ((decide (((s_1.getD x_20.toNat 0).toNat : Int) = 47)) || ((decide (((s_1.getD x_20.toNat 0).toNat : Int) = 61)) || (decide (((s_1.getD x_20.toNat 0).toNat : Int) = 60))))))))) (by rw [hc]; rfl)
                            exact then_normal ⟨hA18492.keep [(0, .string (Bs s_1)), (4, .int .u8 ((s_1.getD x_20.toNat 0).toNat : Int)), (13, .int .i64 (s_1.length : Int)), (14, .int .i64 x_20), (27, .bool ((decide (((s_1.getD x_20.toNat 0).toNat : Int) = 0)) || ((decide (((s_1.getD x_20.toNat 0).toNat : Int) = 34)) || ((decide (((s_1.getD x_20.toNat 0).toNat : Int) = 39)) || ((decide (((s_1.getD x_20.toNat 0).toNat : Int) = 62)) || ((decide (((s_1.getD x_20.toNat 0).toNat : Int) = 47)) || ((decide (((s_1.getD x_20.toNat 0).toNat : Int) = 61)) || (decide (((s_1.getD x_20.toNat 0).toNat : Int) = 60)))))))))] ⟨rfl, rfl, rfl, rfl, rfl, trivial⟩, rfl⟩
                      · rintro a18493 w_ ⟨hA18493, hw_⟩
                        have hw_ : w21 = w_ := hw_.symm
                        subst hw_
                        have hA18494 := hA18493.say (t := 27) rfl (.bool ((decide (((s_1.getD x_20.toNat 0).toNat : Int) = 32)) || ((decide (((s_1.getD x_20.toNat 0).toNat : Int) = 0)) || ((decide (((s_1.getD x_20.toNat 0).toNat : Int) = 34)) || ((decide (((s_1.getD x_20.toNat 0).toNat : Int) = 39)) || ((decide (((s_1.getD x_20.toNat 0).toNat : Int) = 62)) || ((decide (((s_1.getD x_20.toNat 0).toNat : Int) = 47)) || ((decide (((s_1.getD x_20.toNat 0).toNat : Int) = 61)) || (decide (((s_1.getD x_20.toNat 0).toNat : Int) = 60)))))))))) (by rw [hc]; rfl)
                        exact then_normal ⟨hA18494.keep [(0, .string (Bs s_1)), (4, .int .u8 ((s_1.getD x_20.toNat 0).toNat : Int)), (13, .int .i64 (s_1.length : Int)), (14, .int .i64 x_20), (27, .bool ((decide (((s_1.getD x_20.toNat 0).toNat : Int) = 32)) || ((decide (((s_1.getD x_20.toNat 0).toNat : Int) = 0)) || ((decide (((s_1.getD x_20.toNat 0).toNat : Int) = 34)) || ((decide (((s_1.getD x_20.toNat 0).toNat : Int) = 39)) || ((decide (((s_1.getD x_20.toNat 0).toNat : Int) = 62)) || ((decide (((s_1.getD x_20.toNat 0).toNat : Int) = 47)) || ((decide (((s_1.getD x_20.toNat 0).toNat : Int) = 61)) || (decide (((s_1.getD x_20.toNat 0).toNat : Int) = 60))))))))))] ⟨rfl, rfl, rfl, rfl, rfl, trivial⟩, rfl⟩
                  · rintro a18495 w_ ⟨hA18495, hw_⟩
                    have hw_ : w21 = w_ := hw_.symm
                    subst hw_
                    have hA18496 := hA18495.say (t := 27) rfl (.bool ((decide (((s_1.getD x_20.toNat 0).toNat : Int) = 12)) || ((decide (((s_1.getD x_20.toNat 0).toNat : Int) = 32)) || ((decide (((s_1.getD x_20.toNat 0).toNat : Int) = 0)) || ((decide (((s_1.getD x_20.toNat 0).toNat : Int) = 34)) || ((decide (((s_1.getD x_20.toNat 0).toNat : Int) = 39)) || ((decide (((s_1.getD x_20.toNat 0).toNat : Int) = 62)) || ((decide (((s_1.getD x_20.toNat 0).toNat : Int) = 47)) || ((decide (((s_1.getD x_20.toNat 0).toNat : Int) = 61)) || (decide (((s_1.getD x_20.toNat 0).toNat : Int) = 60))))))))))) (by rw [hc]; rfl)
                    exact then_normal ⟨hA18496.keep [(0, .string (Bs s_1)), (4, .int .u8 ((s_1.getD x_20.toNat 0).toNat : Int)), (13, .int .i64 (s_1.length : Int)), (14, .int .i64 x_20), (27, .bool ((decide (((s_1.getD x_20.toNat 0).toNat : Int) = 12)) || ((decide (((s_1.getD x_20.toNat 0).toNat : Int) = 32)) || ((decide (((s_1.getD x_20.toNat 0).toNat : Int) = 0)) || ((decide (((s_1.getD x_20.toNat 0).toNat : Int) = 34)) || ((decide (((s_1.getD x_20.toNat 0).toNat : Int) = 39)) || ((decide (((s_1.getD x_20.toNat 0).toNat : Int) = 62)) || ((decide (((s_1.getD x_20.toNat 0).toNat : Int) = 47)) || ((decide (((s_1.getD x_20.toNat 0).toNat : Int) = 61)) || (decide (((s_1.getD x_20.toNat 0).toNat : Int) = 60)))))))))))] ⟨rfl, rfl, rfl, rfl, rfl, trivial⟩, rfl⟩
              · rintro a18497 w_ ⟨hA18497, hw_⟩
                have hw_ : w21 = w_ := hw_.symm
                subst hw_
                have hA18498 := hA18497.say (t := 27) rfl (.bool ((decide (((s_1.getD x_20.toNat 0).toNat : Int) = 10)) || ((decide (((s_1.getD x_20.toNat 0).toNat : Int) = 12)) || ((decide (((s_1.getD x_20.toNat 0).toNat : Int) = 32)) || ((decide (((s_1.getD x_20.toNat 0).toNat : Int) = 0)) || ((decide (((s_1.getD x_20.toNat 0).toNat : Int) = 34)) || ((decide (((s_1.getD x_20.toNat 0).toNat : Int) = 39)) || ((decide (((s_1.getD x_20.toNat 0).toNat : Int) = 62)) || ((decide (((s_1.getD x_20.toNat 0).toNat : Int) = 47)) || ((decide (((s_1.getD x_20.toNat 0).toNat : Int) = 61)) || (decide (((s_1.getD x_20.toNat 0).toNat : Int) = 60)))))))))))) (by rw [hc]; rfl)
                exact then_normal ⟨hA18498.keep [(0, .string (Bs s_1)), (4, .int .u8 ((s_1.getD x_20.toNat 0).toNat : Int)), (13, .int .i64 (s_1.length : Int)), (14, .int .i64 x_20), (27, .bool ((decide (((s_1.getD x_20.toNat 0).toNat : Int) = 10)) || ((decide (((s_1.getD x_20.toNat 0).toNat : Int) = 12)) || ((decide (((s_1.getD x_20.toNat 0).toNat : Int) = 32)) || ((decide (((s_1.getD x_20.toNat 0).toNat : Int) = 0)) || ((decide (((s_1.getD x_20.toNat 0).toNat : Int) = 34)) || ((decide (((s_1.getD x_20.toNat 0).toNat : Int) = 39)) || ((decide (((s_1.getD x_20.toNat 0).toNat : Int) = 62)) || ((decide (((s_1.getD x_20.toNat 0).toNat : Int) = 47)) || ((decide (((s_1.getD x_20.toNat 0).toNat : Int) = 61)) || (decide (((s_1.getD x_20.toNat 0).toNat : Int) = 60))))))))))))] ⟨rfl, rfl, rfl, rfl, rfl, trivial⟩, rfl⟩
          · rintro a18499 w_ ⟨hA18499, hw_⟩
            have hw_ : w21 = w_ := hw_.symm
            subst hw_
            have hA18500 := hA18499.say (t := 27) rfl (.bool ((decide (((s_1.getD x_20.toNat 0).toNat : Int) = 9)) || ((decide (((s_1.getD x_20.toNat 0).toNat : Int) = 10)) || ((decide (((s_1.getD x_20.toNat 0).toNat : Int) = 12)) || ((decide (((s_1.getD x_20.toNat 0).toNat : Int) = 32)) || ((decide (((s_1.getD x_20.toNat 0).toNat : Int) = 0)) || ((decide (((s_1.getD x_20.toNat 0).toNat : Int) = 34)) || ((decide (((s_1.getD x_20.toNat 0).toNat : Int) = 39)) || ((decide (((s_1.getD x_20.toNat 0).toNat : Int) = 62)) || ((decide (((s_1.getD x_20.toNat 0).toNat : Int) = 47)) || ((decide (((s_1.getD x_20.toNat 0).toNat : Int) = 61)) || (decide (((s_1.getD x_20.toNat 0).toNat : Int) = 60))))))))))))) (by rw [hc]; rfl)
            exact then_normal ⟨hA18500.keep [(0, .string (Bs s_1)), (4, .int .u8 ((s_1.getD x_20.toNat 0).toNat : Int)), (13, .int .i64 (s_1.length : Int)), (14, .int .i64 x_20), (27, .bool ((decide (((s_1.getD x_20.toNat 0).toNat : Int) = 9)) || ((decide (((s_1.getD x_20.toNat 0).toNat : Int) = 10)) || ((decide (((s_1.getD x_20.toNat 0).toNat : Int) = 12)) || ((decide (((s_1.getD x_20.toNat 0).toNat : Int) = 32)) || ((decide (((s_1.getD x_20.toNat 0).toNat : Int) = 0)) || ((decide (((s_1.getD x_20.toNat 0).toNat : Int) = 34)) || ((decide (((s_1.getD x_20.toNat 0).toNat : Int) = 39)) || ((decide (((s_1.getD x_20.toNat 0).toNat : Int) = 62)) || ((decide (((s_1.getD x_20.toNat 0).toNat : Int) = 47)) || ((decide (((s_1.getD x_20.toNat 0).toNat : Int) = 61)) || (decide (((s_1.getD x_20.toNat 0).toNat : Int) = 60)))))))))))))] ⟨rfl, rfl, rfl, rfl, rfl, trivial⟩, rfl⟩
      · rintro a18501 w_ ⟨hA18501, hw_⟩
        have hw_ : w21 = w_ := hw_.symm
        subst hw_
        refine then_normal ?_
        refine wp_cond_split (hA18501.get rfl) (fun hc => ?_) (fun hc => ?_)
        · have ht18502 := ht9287.1 ((b_or_t hc).imp (fun h => (of_decide_eq_true h)) (fun h => ((b_or_t h).imp (fun h => (of_decide_eq_true h)) (fun h => ((b_or_t h).imp (fun h => (of_decide_eq_true h)) (fun h => ((b_or_t h).imp (fun h => (of_decide_eq_true h)) (fun h => ((b_or_t h).imp (fun h => (of_decide_eq_true h)) (fun h => ((b_or_t h).imp (fun h => (of_decide_eq_true h)) (fun h => ((b_or_t h).imp (fun h => (of_decide_eq_true h)) (fun h => ((b_or_t h).imp (fun h => (of_decide_eq_true h)) (fun h => ((b_or_t h).imp (fun h => (of_decide_eq_true h)) (fun h => ((b_or_t h).imp (fun h => (of_decide_eq_true h)) (fun h => (of_decide_eq_true h)))))))))))))))))))))
          clear hc
          refine wp_seq ?_
          refine wp_region_lit ?_
          refine sq (opk_val hA18501 rfl (r_assign rfl) fun a18504 hA18504 _ => ?_)
          refine sq_end ?_
          have hA18505 := hA18504.keep [(2, .bool false)] ⟨rfl, trivial⟩
          refine then_normal ?_
          refine wp_ret ?_
          refine block_ret ?_
          refine block_ret ?_
          refine then_ret ?_
          refine then_ret ?_
          refine block_ret ?_
          refine then_ret ?_
          exact res_all (vs := [.bool false]) rfl hA18505 ⟨res_of_tmp hA18505 rfl, trivial⟩ ht18502
        · have ht18503 := ht9287.2 ⟨(of_decide_eq_false (b_or_f hc).1), ⟨(of_decide_eq_false (b_or_f (b_or_f hc).2).1), ⟨(of_decide_eq_false (b_or_f (b_or_f (b_or_f hc).2).2).1), ⟨(of_decide_eq_false (b_or_f (b_or_f (b_or_f (b_or_f hc).2).2).2).1), ⟨(of_decide_eq_false (b_or_f (b_or_f (b_or_f (b_or_f (b_or_f hc).2).2).2).2).1), ⟨(of_decide_eq_false (b_or_f (b_or_f (b_or_f (b_or_f (b_or_f (b_or_f hc).2).2).2).2).2).1), ⟨(of_decide_eq_false (b_or_f (b_or_f (b_or_f (b_or_f (b_or_f (b_or_f (b_or_f hc).2).2).2).2).2).2).1), ⟨(of_decide_eq_false (b_or_f (b_or_f (b_or_f (b_or_f (b_or_f (b_or_f (b_or_f (b_or_f hc).2).2).2).2).2).2).2).1), ⟨(of_decide_eq_false (b_or_f (b_or_f (b_or_f (b_or_f (b_or_f (b_or_f (b_or_f (b_or_f (b_or_f hc).2).2).2).2).2).2).2).2).1), ⟨(of_decide_eq_false (b_or_f (b_or_f (b_or_f (b_or_f (b_or_f (b_or_f (b_or_f (b_or_f (b_or_f (b_or_f hc).2).2).2).2).2).2).2).2).2).1), (of_decide_eq_false (b_or_f (b_or_f (b_or_f (b_or_f (b_or_f (b_or_f (b_or_f (b_or_f (b_or_f (b_or_f hc).2).2).2).2).2).2).2).2).2).2)⟩⟩⟩⟩⟩⟩⟩⟩⟩⟩
          clear hc
          refine wp_seq ?_
          refine wp_region_lit ?_
          refine sq (opk_val hA18501 rfl (r_move (hA18501.get rfl)) fun a18506 hA18506 _ => ?_)
          refine sq (opk_val hA18506 rfl (r_geq (hA18506.get rfl) rfl) fun a18507 hA18507 _ => ?_)
          refine sq (opk_val hA18507 rfl (r_move (hA18507.get rfl)) fun a18508 hA18508 _ => ?_)
          refine sq (opk_gval hA18508 rfl rfl (g := true) (e := (decide (65 ≤ ((s_1.getD x_20.toNat 0).toNat : Int)))) rfl (fun hg => r_move (hA18508.get rfl)) fun a18509 hA18509 _ => ?_)
          refine sq (opk_gval hA18509 rfl rfl (g := true) (e := (decide (65 ≤ ((s_1.getD x_20.toNat 0).toNat : Int)))) rfl (fun hg => r_leq (cv_get (hA18509.get rfl) hg) rfl) fun a18510 hA18510 _ => ?_)
          refine sq (opk_val hA18510 rfl (r_pick_and (g := (true && ((decide (65 ≤ ((s_1.getD x_20.toNat 0).toNat : Int))) == true))) (hA18510.get rfl) (hA18510.get rfl) (fun he => g_mkt rfl he)) fun a18511 hA18511 _ => ?_)
          refine sq_end ?_
          have hA18512 := hA18511.keep [(0, .string (Bs s_1)), (13, .int .i64 (s_1.length : Int)), (14, .int .i64 x_20), (26, .bool ((decide (65 ≤ ((s_1.getD x_20.toNat 0).toNat : Int))) && (decide (((s_1.getD x_20.toNat 0).toNat : Int) ≤ 90))))] ⟨rfl, rfl, rfl, rfl, trivial⟩
          refine then_normal ?_
          refine wp_cond_split (hA18512.get rfl) (fun hc => ?_) (fun hc => ?_)
          · have ht18513 := ht18503.1 ⟨(of_decide_eq_true (b_and_t hc).1), (of_decide_eq_true (b_and_t hc).2)⟩
            clear hc
            refine wp_seq ?_
            refine wp_region_lit ?_
            refine sq (opk_val hA18512 rfl (r_assign rfl) fun a18515 hA18515 _ => ?_)
            refine sq_end ?_
            have hA18516 := hA18515.keep [(2, .bool false)] ⟨rfl, trivial⟩
            refine then_normal ?_
            refine wp_ret ?_
            refine block_ret ?_
            refine block_ret ?_
            refine then_ret ?_
            refine then_ret ?_
            refine block_ret ?_
            refine then_ret ?_
            exact res_all (vs := [.bool false]) rfl hA18516 ⟨res_of_tmp hA18516 rfl, trivial⟩ ht18513
          · have ht18514 := ht18503.2 ((b_and_f hc).imp (fun h => (of_decide_eq_false h)) (fun h => (of_decide_eq_false h)))
            clear hc
            refine wp_skip ?_
            refine block_normal ?_
            refine block_normal ?_
            refine then_normal ?_
            refine wp_region_lit ?_
            obtain ⟨hS18518, ht18519⟩ := ht18514
            refine sq (opk_val hA18512 rfl (r_addI (hA18512.get rfl) rfl hS18518) fun a18517 hA18517 _ => ?_)
            refine sq (opk_val hA18517 rfl (r_move (hA18517.get rfl)) fun a18520 hA18520 _ => ?_)
            refine sq_end ?_
            have hA18521 := hA18520.keep [(0, .string (Bs s_1)), (13, .int .i64 (s_1.length : Int)), (14, .int .i64 (x_20 + 1))] ⟨rfl, rfl, rfl, trivial⟩
            have hA18522 := hA18521.keep [(0, .string (Bs s_1)), (13, .int .i64 (s_1.length : Int)), (14, .int .i64 (x_20 + 1))] ⟨rfl, rfl, rfl, trivial⟩
            exact then_normal ⟨(x_20 + 1, w21), ⟨hA18522, rfl, ht18519.1⟩, ht18519.2⟩
    · have ht9279 := ht9274.2 (of_decide_eq_false hc)
      clear hc
      refine wp_exit ?_
      refine then_exit ?_
      refine then_exit ?_
      refine block_hit ?_
      have hA18523 := hA9277.keep [] trivial
      refine then_normal ?_
      refine wp_seq ?_
      refine wp_region_lit ?_
      refine sq (opk_val hA18523 rfl (r_assign rfl) fun a18524 hA18524 _ => ?_)
      refine sq_end ?_
      have hA18525 := hA18524.keep [(2, .bool true)] ⟨rfl, trivial⟩
      refine then_normal ?_
      refine wp_ret ?_
      exact res_all (vs := [.bool true]) rfl hA18525 ⟨res_of_tmp hA18525 rfl, trivial⟩ ht9279

/-- The condition of topiary/topiarylaw00.Small. -/
def law00_Small.vc (t_1_Kind : Int) (t_1_Name : Str) (t_1_Text : Str) (t_1_Attrs : Sl) (t_1_Kids : Sl) (R : Value → World → Prop) (w : World) : Prop :=
∀ (w23 : World) (B_2 : Nat) (B_12 : Nat), New w B_2 w23 → New w B_12 w23 → B_2 ≠ B_12 → Chg [] w w23 →
∀ (_ : Box w23 B_12 3 [.int .i64 0]),
CallK Try.prog 39 #[.agg #[.int .i64 t_1_Kind, .string (Bs t_1_Name), .string (Bs t_1_Text), Sl.v t_1_Attrs, Sl.v t_1_Kids], .int .i64 0, .pointer (some ⟨B_12, 0, none⟩)] w23 [B_2] (fun v w38 => ∃ (r_36 : Bool), v = .bool r_36 ∧
R (.bool r_36) w38)
set_option maxHeartbeats 1000000 in
set_option maxRecDepth 10000 in
theorem law00_Small.ok (t_1_Kind : Int) (t_1_Name : Str) (t_1_Text : Str) (t_1_Attrs : Sl) (t_1_Kids : Sl) {R : Value → World → Prop} {w : World} (ht0 : law00_Small.vc t_1_Kind t_1_Name t_1_Text t_1_Attrs t_1_Kids R w) : Calls Try.prog 20 #[.agg #[.int .i64 t_1_Kind, .string (Bs t_1_Name), .string (Bs t_1_Text), Sl.v t_1_Attrs, Sl.v t_1_Kids]] w (Ret R) := by
  refine enter [.agg #[.int .i64 t_1_Kind, .string (Bs t_1_Name), .string (Bs t_1_Text), Sl.v t_1_Attrs, Sl.v t_1_Kids]] Try.func20 rfl Try.ntmps20 rfl ?_
  intro a0 hA0
  unfold law00_Small.vc at ht0
  refine wp_seq ?_
  refine wp_region_lit ?_
  refine sq (opk_new (fun B => .pointer (some ⟨B, 0, none⟩)) hA0 rfl (r_box (cs := [.int .i64 t_1_Kind, .string (Bs t_1_Name), .string (Bs t_1_Text), Sl.v t_1_Attrs, Sl.v t_1_Kids]) (hA0.get rfl) rfl) fun a4 w3 B_2 hE5 hN6 hB7 hA4 _ => ?_)
  have hN8 : New w B_2 w3 := hN6
  have hC9 : Chg [] w w3 := hE5
  refine sq (opk_val hA4 rfl (r_assign rfl) fun a10 hA10 _ => ?_)
  refine sq_end ?_
  have hA11 := hA10.keep [(1, .pointer (some ⟨B_2, 0, none⟩))] ⟨rfl, trivial⟩
  refine then_normal ?_
  refine wp_seq ?_
  refine wp_region_lit ?_
  refine sq (opk_new (fun B => .pointer (some ⟨B, 0, none⟩)) hA11 rfl (r_alloc (cs := [.int .i64 0]) ti_3 rfl) fun a14 w13 B_12 hE15 hN16 hB17 hA14 _ => ?_)
  have hne18 : B_2 ≠ B_12 := Nat.ne_of_lt (Nat.lt_of_lt_of_le hB7.lt hN16.ge)
  have hN19 := New.of hC9 hN16
  have hB20 := hB7.ext hE15
  have hC21 := hC9.more hE15
  have hN22 := hN8.up hE15.size
  refine sq (opk_store hA14 hB17 (r_store (vs := [.int .i64 0]) (hA14.get rfl) rfl rfl ti_3 hB17 rfl (ones_all [.int .i64 0] rfl)) fun a24 w23 hS25 hB26 hA24 => ?_)
  have hB27 : Box w23 B_12 3 [.int .i64 0] := hB26
  have hB28 := hB20.keep hS25 (by simpa using hne18)
  have hC29 := hC21.storeNew hN19 hS25
  have hN30 := hN22.up hS25.size
  have hN31 := hN19.up hS25.size
  refine sq_end ?_
  have hA32 := hA24.keep [(1, .pointer (some ⟨B_2, 0, none⟩)), (3, .pointer (some ⟨B_12, 0, none⟩))] ⟨rfl, rfl, trivial⟩
  refine then_normal ?_
  refine wp_seq ?_
  refine wp_region_lit ?_
  refine sq (opk_val hA32 rfl (r_loadN (cs := [.int .i64 t_1_Kind, .string (Bs t_1_Name), .string (Bs t_1_Text), Sl.v t_1_Attrs, Sl.v t_1_Kids]) Try.underlying26 rfl ti_26 (hA32.get rfl) (hB28.part 0 _ rfl)) fun a33 hA33 _ => ?_)
  have ht34 := ht0 w23 B_2 B_12 hN30 hN31 hne18 hC29
  have ht35 := ht34 hB27
  refine sq (opk_call hA33 rfl (r_call (args := #[.agg #[.int .i64 t_1_Kind, .string (Bs t_1_Name), .string (Bs t_1_Text), Sl.v t_1_Attrs, Sl.v t_1_Kids], .int .i64 0, .pointer (some ⟨B_12, 0, none⟩)]) Try.func39 (by decide) rfl (map_arr (ml_cons (hA33.get rfl) (ml_cons rfl (ml_cons (hA33.get rfl) ml_nil)))) rfl) ht35 fun a37 v43 w38 hA37 _ hn40 hz41 hK42 => ?_)
  obtain ⟨r_36, rfl, ht39⟩ := hK42
  have hB44 := hB28.kept hn40 (.head _)
  refine sq (opk_val hA37 rfl (r_assign (hA37.get rfl)) fun a45 hA45 _ => ?_)
  refine sq_end ?_
  have hA46 := hA45.keep [(2, .bool r_36)] ⟨rfl, trivial⟩
  refine then_normal ?_
  refine wp_ret ?_
  exact res_all (vs := [.bool r_36]) rfl hA46 ⟨res_of_tmp hA46 rfl, trivial⟩ ht39

end Go.Proofs.Ytpacegmmbabhjaa
