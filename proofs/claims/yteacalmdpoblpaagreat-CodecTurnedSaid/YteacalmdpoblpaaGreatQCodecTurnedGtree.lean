/-
  PRINTED BY PROGRAM: for each function its condition (vc), and that this suffices (ok).
-/
import Derived.Test.YteacalmdpoblpaaGreatQCodecTurnedGT
namespace Go.Proofs.YteacalmdpoblpaaGreat
open Go.RowKit
set_option linter.unusedVariables false

/-- The condition of topiary/tree.Check. -/
def tree_Check.vc (t_1_Kind : Int) (t_1_Name : Str) (t_1_Text : Str) (t_1_Attrs : Sl) (t_1_Kids : Sl) (R : Value → World → Prop) (w : World) : Prop :=
∀ (w3 : World) (B_2 : Nat), New w B_2 w3 → Chg [] w w3 →
∃ (r_18 : Int), (((t_1_Kind = 1)) → Calls Tryz.prog 59 #[.agg #[.int .i64 t_1_Kind, .string (Bs t_1_Name), .string (Bs t_1_Text), Sl.v t_1_Attrs, Sl.v t_1_Kids]] w3 (Ret fun v w' => Ext w3 w' ∧ v = .int .i64 r_18)) ∧
(∀ w20 : World, Ext w3 w20 →
∃ (r_31 : Int), ((((t_1_Kind = 1) ∧ (r_18 ≤ 300))) → Calls Tryz.prog 60 #[.agg #[.int .i64 t_1_Kind, .string (Bs t_1_Name), .string (Bs t_1_Text), Sl.v t_1_Attrs, Sl.v t_1_Kids]] w20 (Ret fun v w' => Ext w20 w' ∧ v = .int .i64 r_31)) ∧
(∀ w33 : World, Ext w20 w33 →
∀ (w48 : World), Chg [] w33 w48 →
∀ (B_47 : Nat) (_ : w33.heap.size ≤ B_47) (_ : ((((t_1_Kind = 1) ∧ (r_18 ≤ 300)) ∧ (r_31 ≤ 60))) → Box w48 B_47 9 [.string (Bs t_1_Name), .string (Bs t_1_Text)]),
∃ (r_61 : Bool), (((((t_1_Kind = 1) ∧ (r_18 ≤ 300)) ∧ (r_31 ≤ 60))) → Calls Tryz.prog 61 #[Sl.v (Sl.mk (some ⟨B_47, 0, none⟩) 2 2)] w48 (Ret fun v w' => Ext w48 w' ∧ v = .bool r_61)) ∧
(∀ w63 : World, Ext w48 w63 →
∃ (r_79 : Bool), (((((((t_1_Kind = 1) ∧ (r_18 ≤ 300)) ∧ (r_31 ≤ 60)) ∧ (r_61 = true)) ∧ ((t_1_Attrs.n : Int) = 0))) → Calls Tryz.prog 62 #[.agg #[.int .i64 t_1_Kind, .string (Bs t_1_Name), .string (Bs t_1_Text), Sl.v t_1_Attrs, Sl.v t_1_Kids]] w63 (Ret fun v w' => Ext w63 w' ∧ v = .bool r_79)) ∧
(∀ w81 : World, Ext w63 w81 →
R (.bool ((((((decide (t_1_Kind = 1)) && (decide (r_18 ≤ 300))) && (decide (r_31 ≤ 60))) && r_61) && (decide ((t_1_Attrs.n : Int) = 0))) && r_79)) w81))))
set_option maxHeartbeats 1000000 in
set_option maxRecDepth 10000 in
theorem tree_Check.ok (t_1_Kind : Int) (t_1_Name : Str) (t_1_Text : Str) (t_1_Attrs : Sl) (t_1_Kids : Sl) {R : Value → World → Prop} {w : World} (ht0 : tree_Check.vc t_1_Kind t_1_Name t_1_Text t_1_Attrs t_1_Kids R w) : Calls Tryz.prog 35 #[.agg #[.int .i64 t_1_Kind, .string (Bs t_1_Name), .string (Bs t_1_Text), Sl.v t_1_Attrs, Sl.v t_1_Kids]] w (Ret R) := by
  refine enter [.agg #[.int .i64 t_1_Kind, .string (Bs t_1_Name), .string (Bs t_1_Text), Sl.v t_1_Attrs, Sl.v t_1_Kids]] Tryz.func35 rfl Tryz.ntmps35 rfl ?_
  intro a0 hA0
  unfold tree_Check.vc at ht0
  refine wp_seq ?_
  refine wp_region_lit ?_
  refine sq (opk_new (fun B => .pointer (some ⟨B, 0, none⟩)) hA0 rfl (r_box (cs := [.int .i64 t_1_Kind, .string (Bs t_1_Name), .string (Bs t_1_Text), Sl.v t_1_Attrs, Sl.v t_1_Kids]) (hA0.get rfl) rfl) fun a4 w3 B_2 hE5 hN6 hB7 hA4 _ => ?_)
  have hN8 : New w B_2 w3 := hN6
  have hC9 : Chg [] w w3 := hE5
  refine sq (opk_val hA4 rfl (r_assign rfl) fun a10 hA10 _ => ?_)
  refine sq_end ?_
  have hA11 := hA10.keep [(1, .pointer (some (⟨B_2, 0, none⟩ : Addr)))] ⟨rfl, trivial⟩
  refine then_normal ?_
  refine wp_seq ?_
  refine wp_region_lit ?_
  refine sq (opk_val hA11 rfl (r_fieldAddr (hA11.get rfl) Tryz.underlying39 rfl ti_3 (by decide)) fun a12 hA12 _ => ?_)
  refine sq (opk_val hA12 rfl (r_load1 Tryz.underlying3 rfl (hA12.get rfl) (hB7.cell 0 _ rfl)) fun a13 hA13 _ => ?_)
  refine sq (opk_val hA13 rfl (r_eql (hA13.get rfl) rfl) fun a14 hA14 _ => ?_)
  refine sq (opk_val hA14 rfl (r_move (hA14.get rfl)) fun a15 hA15 _ => ?_)
  refine sq (opk_gval hA15 rfl rfl (g := true) (e := (decide (t_1_Kind = 1))) rfl (fun hg => r_loadN (cs := [.int .i64 t_1_Kind, .string (Bs t_1_Name), .string (Bs t_1_Text), Sl.v t_1_Attrs, Sl.v t_1_Kids]) Tryz.underlying39 rfl ti_39 (hA15.get rfl) (hB7.part 0 _ rfl)) fun a16 hA16 _ => ?_)
  have ht17 := ht0 w3 B_2 hN8  hC9
  obtain ⟨r_18, hc22, ht21⟩ := ht17
  refine sq (opk_gcall hA16 rfl rfl (g := true) (e := (decide (t_1_Kind = 1))) rfl (fun hg => r_call (args := #[.agg #[.int .i64 t_1_Kind, .string (Bs t_1_Name), .string (Bs t_1_Text), Sl.v t_1_Attrs, Sl.v t_1_Kids]]) Tryz.func59 (by decide) rfl (map_arr (ml_cons (cv_get (hA16.get rfl) hg) ml_nil)) rfl) (fun hg => hc22 (of_decide_eq_true (g_t hg))) fun a19 w20 hA19 _ hE23 => ?_)
  have hB24 := hB7.ext hE23
  have hC25 : Chg [] w3 w20 := hE23
  have ht26 := ht21 w20 hE23
  refine sq (opk_gval hA19 rfl rfl (g := true) (e := (decide (t_1_Kind = 1))) rfl (fun hg => r_leq (cv_get (hA19.get rfl) hg) rfl) fun a27 hA27 _ => ?_)
  refine sq (opk_val hA27 rfl (r_pick_and (g := (true && ((decide (t_1_Kind = 1)) == true))) (hA27.get rfl) (hA27.get rfl) (fun he => g_mkt rfl he)) fun a28 hA28 _ => ?_)
  refine sq (opk_val hA28 rfl (r_move (hA28.get rfl)) fun a29 hA29 _ => ?_)
  refine sq (opk_gval hA29 rfl rfl (g := true) (e := ((decide (t_1_Kind = 1)) && (decide (r_18 ≤ 300)))) rfl (fun hg => r_loadN (cs := [.int .i64 t_1_Kind, .string (Bs t_1_Name), .string (Bs t_1_Text), Sl.v t_1_Attrs, Sl.v t_1_Kids]) Tryz.underlying39 rfl ti_39 (hA29.get rfl) (hB24.part 0 _ rfl)) fun a30 hA30 _ => ?_)
  obtain ⟨r_31, hc35, ht34⟩ := ht26
  refine sq (opk_gcall hA30 rfl rfl (g := true) (e := ((decide (t_1_Kind = 1)) && (decide (r_18 ≤ 300)))) rfl (fun hg => r_call (args := #[.agg #[.int .i64 t_1_Kind, .string (Bs t_1_Name), .string (Bs t_1_Text), Sl.v t_1_Attrs, Sl.v t_1_Kids]]) Tryz.func60 (by decide) rfl (map_arr (ml_cons (cv_get (hA30.get rfl) hg) ml_nil)) rfl) (fun hg => hc35 ⟨(of_decide_eq_true (b_and_t (g_t hg)).1), (of_decide_eq_true (b_and_t (g_t hg)).2)⟩) fun a32 w33 hA32 _ hE36 => ?_)
  have hB37 := hB24.ext hE36
  have hC38 : Chg [] w20 w33 := hE36
  have ht39 := ht34 w33 hE36
  refine sq (opk_gval hA32 rfl rfl (g := true) (e := ((decide (t_1_Kind = 1)) && (decide (r_18 ≤ 300)))) rfl (fun hg => r_leq (cv_get (hA32.get rfl) hg) rfl) fun a40 hA40 _ => ?_)
  refine sq (opk_val hA40 rfl (r_pick_and (g := (true && (((decide (t_1_Kind = 1)) && (decide (r_18 ≤ 300))) == true))) (hA40.get rfl) (hA40.get rfl) (fun he => g_mkt rfl he)) fun a41 hA41 _ => ?_)
  refine sq (opk_val hA41 rfl (r_move (hA41.get rfl)) fun a42 hA42 _ => ?_)
  refine sq (opk_gval hA42 rfl rfl (g := true) (e := (((decide (t_1_Kind = 1)) && (decide (r_18 ≤ 300))) && (decide (r_31 ≤ 60)))) rfl (fun hg => r_fieldAddr (hA42.get rfl) Tryz.underlying39 rfl ti_9 (by decide)) fun a43 hA43 _ => ?_)
  refine sq (opk_gval hA43 rfl rfl (g := true) (e := (((decide (t_1_Kind = 1)) && (decide (r_18 ≤ 300))) && (decide (r_31 ≤ 60)))) rfl (fun hg => r_load1 Tryz.underlying9 rfl (cv_get (hA43.get rfl) hg) (hB37.cell 1 _ rfl)) fun a44 hA44 _ => ?_)
  refine sq (opk_gval hA44 rfl rfl (g := true) (e := (((decide (t_1_Kind = 1)) && (decide (r_18 ≤ 300))) && (decide (r_31 ≤ 60)))) rfl (fun hg => r_fieldAddr (hA44.get rfl) Tryz.underlying39 rfl ti_9 (by decide)) fun a45 hA45 _ => ?_)
  refine sq (opk_gval hA45 rfl rfl (g := true) (e := (((decide (t_1_Kind = 1)) && (decide (r_18 ≤ 300))) && (decide (r_31 ≤ 60)))) rfl (fun hg => r_load1 Tryz.underlying9 rfl (cv_get (hA45.get rfl) hg) (hB37.cell 2 _ rfl)) fun a46 hA46 _ => ?_)
  refine sq (opk_gnew2 (fun B => .slice (some ⟨B, 0, none⟩) 2 2) hA46 rfl rfl (g := true) (e := (((decide (t_1_Kind = 1)) && (decide (r_18 ≤ 300))) && (decide (r_31 ≤ 60)))) rfl (fun hg => r_buildSlice (vs := #[(0, .string (Bs t_1_Name)), (1, .string (Bs t_1_Text))]) (cs := [.string (Bs t_1_Name), .string (Bs t_1_Text)]) (map_arr2 (ml2_cons (cv_get (hA46.get rfl) hg) (ml2_cons (cv_get (hA46.get rfl) hg) (ml2_nil)))) Tryz.underlying61 ti_9 rfl rfl (by kernel_rfl)) fun a49 w48 B_47 hE50 hge53 hB52 hA49 _ => ?_)
  have hB54 := fun hg => (hB52 hg).2
  have hne55 : B_2 ≠ B_47 := Nat.ne_of_lt (Nat.lt_of_lt_of_le hB37.lt hge53)
  have hge56 : w33.heap.size ≤ B_47 := hge53
  have hB57 := hB37.ext hE50
  have hC58 : Chg [] w33 w48 := hE50
  have ht59 := ht39 w48    hC58
  have ht60 := ht59 B_47 hge56 (fun hp => hB54 ((g_mkt rfl (b_and_mk ⟨(b_and_mk ⟨(decide_eq_true hp.1.1), (decide_eq_true hp.1.2)⟩), (decide_eq_true hp.2)⟩))))
  obtain ⟨r_61, hc65, ht64⟩ := ht60
  refine sq (opk_gcall hA49 rfl rfl (g := true) (e := (((decide (t_1_Kind = 1)) && (decide (r_18 ≤ 300))) && (decide (r_31 ≤ 60)))) rfl (fun hg => r_call (args := #[Sl.v (Sl.mk (some ⟨B_47, 0, none⟩) 2 2)]) Tryz.func61 (by decide) rfl (map_arr (ml_cons (cv_get (hA49.get rfl) hg) ml_nil)) rfl) (fun hg => hc65 ⟨⟨(of_decide_eq_true (b_and_t (b_and_t (g_t hg)).1).1), (of_decide_eq_true (b_and_t (b_and_t (g_t hg)).1).2)⟩, (of_decide_eq_true (b_and_t (g_t hg)).2)⟩) fun a62 w63 hA62 _ hE66 => ?_)
  have hB67 := hB57.ext hE66
  have hC68 : Chg [] w48 w63 := hE66
  have ht69 := ht64 w63 hE66
  refine sq (opk_val hA62 rfl (r_pick_and (g := (true && ((((decide (t_1_Kind = 1)) && (decide (r_18 ≤ 300))) && (decide (r_31 ≤ 60))) == true))) (hA62.get rfl) (hA62.get rfl) (fun he => g_mkt rfl he)) fun a70 hA70 _ => ?_)
  refine sq (opk_val hA70 rfl (r_move (hA70.get rfl)) fun a71 hA71 _ => ?_)
  refine sq (opk_gval hA71 rfl rfl (g := true) (e := ((((decide (t_1_Kind = 1)) && (decide (r_18 ≤ 300))) && (decide (r_31 ≤ 60))) && r_61)) rfl (fun hg => r_fieldAddr (hA71.get rfl) Tryz.underlying39 rfl ti_36 (by decide)) fun a72 hA72 _ => ?_)
  refine sq (opk_gval hA72 rfl rfl (g := true) (e := ((((decide (t_1_Kind = 1)) && (decide (r_18 ≤ 300))) && (decide (r_31 ≤ 60))) && r_61)) rfl (fun hg => r_load1 Tryz.underlying36 rfl (cv_get (hA72.get rfl) hg) (hB67.cell 3 _ rfl)) fun a73 hA73 _ => ?_)
  refine sq (opk_gval hA73 rfl rfl (g := true) (e := ((((decide (t_1_Kind = 1)) && (decide (r_18 ≤ 300))) && (decide (r_31 ≤ 60))) && r_61)) rfl (fun hg => r_len (cv_get (hA73.get rfl) hg) Tryz.underlying36) fun a74 hA74 _ => ?_)
  refine sq (opk_gval hA74 rfl rfl (g := true) (e := ((((decide (t_1_Kind = 1)) && (decide (r_18 ≤ 300))) && (decide (r_31 ≤ 60))) && r_61)) rfl (fun hg => r_eql (cv_get (hA74.get rfl) hg) rfl) fun a75 hA75 _ => ?_)
  refine sq (opk_val hA75 rfl (r_pick_and (g := (true && (((((decide (t_1_Kind = 1)) && (decide (r_18 ≤ 300))) && (decide (r_31 ≤ 60))) && r_61) == true))) (hA75.get rfl) (hA75.get rfl) (fun he => g_mkt rfl he)) fun a76 hA76 _ => ?_)
  refine sq (opk_val hA76 rfl (r_move (hA76.get rfl)) fun a77 hA77 _ => ?_)
  refine sq (opk_gval hA77 rfl rfl (g := true) (e := (((((decide (t_1_Kind = 1)) && (decide (r_18 ≤ 300))) && (decide (r_31 ≤ 60))) && r_61) && (decide ((t_1_Attrs.n : Int) = 0)))) rfl (fun hg => r_loadN (cs := [.int .i64 t_1_Kind, .string (Bs t_1_Name), .string (Bs t_1_Text), Sl.v t_1_Attrs, Sl.v t_1_Kids]) Tryz.underlying39 rfl ti_39 (hA77.get rfl) (hB67.part 0 _ rfl)) fun a78 hA78 _ => ?_)
  obtain ⟨r_79, hc83, ht82⟩ := ht69
  refine sq (opk_gcall hA78 rfl rfl (g := true) (e := (((((decide (t_1_Kind = 1)) && (decide (r_18 ≤ 300))) && (decide (r_31 ≤ 60))) && r_61) && (decide ((t_1_Attrs.n : Int) = 0)))) rfl (fun hg => r_call (args := #[.agg #[.int .i64 t_1_Kind, .string (Bs t_1_Name), .string (Bs t_1_Text), Sl.v t_1_Attrs, Sl.v t_1_Kids]]) Tryz.func62 (by decide) rfl (map_arr (ml_cons (cv_get (hA78.get rfl) hg) ml_nil)) rfl) (fun hg => hc83 ⟨⟨⟨⟨(of_decide_eq_true (b_and_t (b_and_t (b_and_t (b_and_t (g_t hg)).1).1).1).1), (of_decide_eq_true (b_and_t (b_and_t (b_and_t (b_and_t (g_t hg)).1).1).1).2)⟩, (of_decide_eq_true (b_and_t (b_and_t (b_and_t (g_t hg)).1).1).2)⟩, (b_and_t (b_and_t (g_t hg)).1).2⟩, (of_decide_eq_true (b_and_t (g_t hg)).2)⟩) fun a80 w81 hA80 _ hE84 => ?_)
  have hB85 := hB67.ext hE84
  have hC86 : Chg [] w63 w81 := hE84
  have ht87 := ht82 w81 hE84
  refine sq (opk_val hA80 rfl (r_pick_and (g := (true && ((((((decide (t_1_Kind = 1)) && (decide (r_18 ≤ 300))) && (decide (r_31 ≤ 60))) && r_61) && (decide ((t_1_Attrs.n : Int) = 0))) == true))) (hA80.get rfl) (hA80.get rfl) (fun he => g_mkt rfl he)) fun a88 hA88 _ => ?_)
  refine sq (opk_val hA88 rfl (r_assign (hA88.get rfl)) fun a89 hA89 _ => ?_)
  refine sq_end ?_
  have hA90 := hA89.keep [(2, .bool ((((((decide (t_1_Kind = 1)) && (decide (r_18 ≤ 300))) && (decide (r_31 ≤ 60))) && r_61) && (decide ((t_1_Attrs.n : Int) = 0))) && r_79))] ⟨rfl, trivial⟩
  refine then_normal ?_
  refine wp_ret ?_
  exact res_all (vs := [.bool ((((((decide (t_1_Kind = 1)) && (decide (r_18 ≤ 300))) && (decide (r_31 ≤ 60))) && r_61) && (decide ((t_1_Attrs.n : Int) = 0))) && r_79)]) rfl hA90 ⟨res_of_tmp hA90 rfl, trivial⟩ ht87

/-- The condition of topiary/tree.Size. -/
def tree_Size.vc (t_1_Kind : Int) (t_1_Name : Str) (t_1_Text : Str) (t_1_Attrs : Sl) (t_1_Kids : Sl) (R : Value → World → Prop) (w : World) : Prop :=
∀ (w3 : World) (B_2 : Nat), New w B_2 w3 → Chg [] w w3 →
∃ (J_22 : Int → Int → World → Prop) (mu_23 : Int → Int → World → Nat),
J_22 1 0 w3 ∧
(∀ (n_19 : Int) (x_20 : Int) (w21 : World), J_22 n_19 x_20 w21 →
((x_20 < (t_1_Kids.n : Int)) →
((0 : Int) ≤ x_20 ∧ x_20 < (t_1_Kids.n : Int)) ∧ ∃ p_86 : Addr, t_1_Kids.a = some p_86 ∧
∃ (x_92_Kind : Int) (x_92_Name : Str) (x_92_Text : Str) (x_92_Attrs : Sl) (x_92_Kids : Sl), (Cells w21 (p_86.add (x_20.toNat * 5)) [.int .i64 x_92_Kind, .string (Bs x_92_Name), .string (Bs x_92_Text), Sl.v x_92_Attrs, Sl.v x_92_Kids]) ∧
∀ (w103 : World) (B_95 : Nat), New w21 B_95 w103 → Chg [] w21 w103 →
CallK Tryz.prog 59 #[.agg #[.int .i64 x_92_Kind, .string (Bs x_92_Name), .string (Bs x_92_Text), Sl.v x_92_Attrs, Sl.v x_92_Kids]] w103 [B_95] (fun v w116 => ∃ (r_114 : Int), v = .int .i64 r_114 ∧
(I64 (n_19 + r_114)) ∧
(I64 (x_20 + 1)) ∧
J_22 (n_19 + r_114) (x_20 + 1) w116 ∧ mu_23 (n_19 + r_114) (x_20 + 1) w116 < mu_23 n_19 x_20 w21)) ∧
((¬ (x_20 < (t_1_Kids.n : Int))) →
R (.int .i64 n_19) w21))
set_option maxHeartbeats 1000000 in
set_option maxRecDepth 10000 in
theorem tree_Size.ok (t_1_Kind : Int) (t_1_Name : Str) (t_1_Text : Str) (t_1_Attrs : Sl) (t_1_Kids : Sl) {R : Value → World → Prop} {w : World} (ht0 : tree_Size.vc t_1_Kind t_1_Name t_1_Text t_1_Attrs t_1_Kids R w) : Calls Tryz.prog 59 #[.agg #[.int .i64 t_1_Kind, .string (Bs t_1_Name), .string (Bs t_1_Text), Sl.v t_1_Attrs, Sl.v t_1_Kids]] w (Ret R) := by
  refine enter [.agg #[.int .i64 t_1_Kind, .string (Bs t_1_Name), .string (Bs t_1_Text), Sl.v t_1_Attrs, Sl.v t_1_Kids]] Tryz.func59 rfl Tryz.ntmps59 rfl ?_
  intro a0 hA0
  unfold tree_Size.vc at ht0
  refine wp_seq ?_
  refine wp_region_lit ?_
  refine sq (opk_new (fun B => .pointer (some ⟨B, 0, none⟩)) hA0 rfl (r_box (cs := [.int .i64 t_1_Kind, .string (Bs t_1_Name), .string (Bs t_1_Text), Sl.v t_1_Attrs, Sl.v t_1_Kids]) (hA0.get rfl) rfl) fun a4 w3 B_2 hE5 hN6 hB7 hA4 _ => ?_)
  have hN8 : New w B_2 w3 := hN6
  have hC9 : Chg [] w w3 := hE5
  refine sq (opk_val hA4 rfl (r_assign rfl) fun a10 hA10 _ => ?_)
  refine sq_end ?_
  have hA11 := hA10.keep [(1, .pointer (some (⟨B_2, 0, none⟩ : Addr)))] ⟨rfl, trivial⟩
  refine then_normal ?_
  refine wp_seq ?_
  refine wp_region_lit ?_
  refine sq (opk_val hA11 rfl (r_assign rfl) fun a12 hA12 _ => ?_)
  refine sq_end ?_
  have hA13 := hA12.keep [(1, .pointer (some (⟨B_2, 0, none⟩ : Addr))), (3, .int .i64 1)] ⟨rfl, rfl, trivial⟩
  refine then_normal ?_
  refine wp_seq ?_
  refine wp_seq ?_
  refine wp_region_lit ?_
  refine sq (opk_val hA13 rfl (r_fieldAddr (hA13.get rfl) Tryz.underlying39 rfl ti_37 (by decide)) fun a14 hA14 _ => ?_)
  refine sq (opk_val hA14 rfl (r_load1 Tryz.underlying37 rfl (hA14.get rfl) (hB7.cell 4 _ rfl)) fun a15 hA15 _ => ?_)
  refine sq (opk_val hA15 rfl (r_len (hA15.get rfl) Tryz.underlying37) fun a16 hA16 _ => ?_)
  refine sq (opk_val hA16 rfl (r_move rfl) fun a17 hA17 _ => ?_)
  refine sq_end ?_
  have hA18 := hA17.keep [(3, .int .i64 1), (7, Sl.v t_1_Kids), (8, .int .i64 (t_1_Kids.n : Int)), (9, .int .i64 0)] ⟨rfl, rfl, rfl, rfl, trivial⟩
  refine then_normal ?_
  refine wp_block ?_
  have ht76 := ht0 w3 B_2 hN8  hC9
  obtain ⟨J_22, mu_23, h079, ht78⟩ := ht76
  refine wp_loop_st (σ := Int × Int × World) (fun s a w => Ag 19 a [(3, .int .i64 s.1), (7, Sl.v t_1_Kids), (8, .int .i64 (t_1_Kids.n : Int)), (9, .int .i64 s.2.1)] ∧ w = s.2.2 ∧ J_22 s.1 s.2.1 s.2.2) (fun s => mu_23 s.1 s.2.1 s.2.2) (1, 0, w3) ⟨hA18.keep [(3, .int .i64 1), (7, Sl.v t_1_Kids), (8, .int .i64 (t_1_Kids.n : Int)), (9, .int .i64 0)] ⟨rfl, rfl, rfl, rfl, trivial⟩, rfl, h079⟩ ?_
  rintro ⟨n_19, x_20, w21⟩ a77 w_ ⟨hA77, hw_, hJ81⟩
  have hw_ : w21 = w_ := hw_.symm
  subst hw_
  have ht80 := ht78 n_19 x_20 _ hJ81
  refine wp_seq ?_
  refine wp_region_lit ?_
  refine sq (opk_val hA77 rfl (r_lss (hA77.get rfl) (hA77.get rfl)) fun a82 hA82 _ => ?_)
  refine sq_end ?_
  have hA83 := hA82.keep [(3, .int .i64 n_19), (7, Sl.v t_1_Kids), (8, .int .i64 (t_1_Kids.n : Int)), (9, .int .i64 x_20), (10, .bool (decide (x_20 < (t_1_Kids.n : Int))))] ⟨rfl, rfl, rfl, rfl, rfl, trivial⟩
  refine then_normal ?_
  refine wp_seq ?_
  refine wp_cond_split (hA83.get rfl) (fun hc => ?_) (fun hc => ?_)
  · have ht84 := ht80.1 (of_decide_eq_true hc)
    clear hc
    refine wp_skip ?_
    refine then_normal ?_
    refine wp_seq ?_
    refine wp_block ?_
    refine wp_seq ?_
    refine wp_region_lit ?_
    obtain ⟨hb87, p_86, hp88, ht89⟩ := ht84
    refine sq (opk_val hA83 rfl (r_indexAddr (hA83.get rfl) (hA83.get rfl) Tryz.underlying37 ti_39 hb87 hp88) fun a90 hA90 _ => ?_)
    obtain ⟨x_92_Kind, x_92_Name, x_92_Text, x_92_Attrs, x_92_Kids, hx93, ht94⟩ := ht89
    refine sq (opk_val hA90 rfl (r_loadN Tryz.underlying39 rfl ti_39 (hA90.get rfl) hx93) fun a91 hA91 _ => ?_)
    refine sq (opk_new (fun B => .pointer (some ⟨B, 0, none⟩)) hA91 rfl (r_alloc (cs := [.int .i64 0, .string (Bs ([] : Str)), .string (Bs ([] : Str)), Sl.v Sl.nil, Sl.v Sl.nil]) ti_39 rfl) fun a97 w96 B_95 hE98 hN99 hB100 hA97 _ => ?_)
    have hN101 : New w21 B_95 w96 := hN99
    have hC102 : Chg [] w21 w96 := hE98
    refine sq (opk_store hA97 hB100 (r_store (vs := [.int .i64 x_92_Kind, .string (Bs x_92_Name), .string (Bs x_92_Text), Sl.v x_92_Attrs, Sl.v x_92_Kids]) (hA97.get rfl) (hA97.get rfl) rfl ti_39 hB100 rfl (ones_all [.int .i64 x_92_Kind, .string (Bs x_92_Name), .string (Bs x_92_Text), Sl.v x_92_Attrs, Sl.v x_92_Kids] rfl)) fun a104 w103 hS105 hB106 hA104 => ?_)
    have hB107 : Box w103 B_95 39 [.int .i64 x_92_Kind, .string (Bs x_92_Name), .string (Bs x_92_Text), Sl.v x_92_Attrs, Sl.v x_92_Kids] := hB106
    have hC108 := hC102.storeNew hN101 hS105
    have hN109 := hN101.up hS105.size
    refine sq_end ?_
    have hA110 := hA104.keep [(3, .int .i64 n_19), (5, .pointer (some (⟨B_95, 0, none⟩ : Addr))), (7, Sl.v t_1_Kids), (8, .int .i64 (t_1_Kids.n : Int)), (9, .int .i64 x_20)] ⟨rfl, rfl, rfl, rfl, rfl, trivial⟩
    refine then_normal ?_
    refine wp_region_lit ?_
    refine sq (opk_val hA110 rfl (r_move (hA110.get rfl)) fun a111 hA111 _ => ?_)
    refine sq (opk_val hA111 rfl (r_loadN (cs := [.int .i64 x_92_Kind, .string (Bs x_92_Name), .string (Bs x_92_Text), Sl.v x_92_Attrs, Sl.v x_92_Kids]) Tryz.underlying39 rfl ti_39 (hA111.get rfl) (hB107.part 0 _ rfl)) fun a112 hA112 _ => ?_)
    have ht113 := ht94 w103 B_95 hN109  hC108
    refine sq (opk_call hA112 rfl (r_call (args := #[.agg #[.int .i64 x_92_Kind, .string (Bs x_92_Name), .string (Bs x_92_Text), Sl.v x_92_Attrs, Sl.v x_92_Kids]]) Tryz.func59 (by decide) rfl (map_arr (ml_cons (hA112.get rfl) ml_nil)) rfl) ht113 fun a115 v121 w116 hA115 _ hn118 hz119 hK120 => ?_)
    obtain ⟨r_114, rfl, ht117⟩ := hK120
    have hB122 := hB107.kept hn118 (.head _)
    obtain ⟨hS124, ht125⟩ := ht117
    refine sq (opk_val hA115 rfl (r_addI (hA115.get rfl) (hA115.get rfl) hS124) fun a123 hA123 _ => ?_)
    refine sq (opk_val hA123 rfl (r_assign (hA123.get rfl)) fun a126 hA126 _ => ?_)
    refine sq_end ?_
    have hA127 := hA126.keep [(3, .int .i64 (n_19 + r_114)), (7, Sl.v t_1_Kids), (8, .int .i64 (t_1_Kids.n : Int)), (9, .int .i64 x_20)] ⟨rfl, rfl, rfl, rfl, trivial⟩
    refine block_normal ?_
    refine then_normal ?_
    refine wp_region_lit ?_
    obtain ⟨hS129, ht130⟩ := ht125
    refine sq (opk_val hA127 rfl (r_addI (hA127.get rfl) rfl hS129) fun a128 hA128 _ => ?_)
    refine sq (opk_val hA128 rfl (r_move (hA128.get rfl)) fun a131 hA131 _ => ?_)
    refine sq_end ?_
    have hA132 := hA131.keep [(3, .int .i64 (n_19 + r_114)), (7, Sl.v t_1_Kids), (8, .int .i64 (t_1_Kids.n : Int)), (9, .int .i64 (x_20 + 1))] ⟨rfl, rfl, rfl, rfl, trivial⟩
    have hA133 := hA132.keep [(3, .int .i64 (n_19 + r_114)), (7, Sl.v t_1_Kids), (8, .int .i64 (t_1_Kids.n : Int)), (9, .int .i64 (x_20 + 1))] ⟨rfl, rfl, rfl, rfl, trivial⟩
    exact then_normal ⟨(n_19 + r_114, x_20 + 1, w116), ⟨hA133, rfl, ht130.1⟩, ht130.2⟩
  · have ht85 := ht80.2 (of_decide_eq_false hc)
    clear hc
    refine wp_exit ?_
    refine then_exit ?_
    refine then_exit ?_
    refine block_hit ?_
    have hA134 := hA83.keep [(3, .int .i64 n_19)] ⟨rfl, trivial⟩
    refine then_normal ?_
    refine wp_seq ?_
    refine wp_region_lit ?_
    refine sq (opk_val hA134 rfl (r_move (hA134.get rfl)) fun a135 hA135 _ => ?_)
    refine sq (opk_val hA135 rfl (r_assign (hA135.get rfl)) fun a136 hA136 _ => ?_)
    refine sq_end ?_
    have hA137 := hA136.keep [(2, .int .i64 n_19)] ⟨rfl, trivial⟩
    refine then_normal ?_
    refine wp_ret ?_
    exact res_all (vs := [.int .i64 n_19]) rfl hA137 ⟨res_of_tmp hA137 rfl, trivial⟩ ht85

/-- The condition of topiary/tree.Depth. -/
def tree_Depth.vc (t_1_Kind : Int) (t_1_Name : Str) (t_1_Text : Str) (t_1_Attrs : Sl) (t_1_Kids : Sl) (R : Value → World → Prop) (w : World) : Prop :=
∀ (w3 : World) (B_2 : Nat), New w B_2 w3 → Chg [] w w3 →
∃ (J_22 : Int → Int → World → Prop) (mu_23 : Int → Int → World → Nat),
J_22 0 0 w3 ∧
(∀ (d_19 : Int) (x_20 : Int) (w21 : World), J_22 d_19 x_20 w21 →
((x_20 < (t_1_Kids.n : Int)) →
((0 : Int) ≤ x_20 ∧ x_20 < (t_1_Kids.n : Int)) ∧ ∃ p_84 : Addr, t_1_Kids.a = some p_84 ∧
∃ (x_90_Kind : Int) (x_90_Name : Str) (x_90_Text : Str) (x_90_Attrs : Sl) (x_90_Kids : Sl), (Cells w21 (p_84.add (x_20.toNat * 5)) [.int .i64 x_90_Kind, .string (Bs x_90_Name), .string (Bs x_90_Text), Sl.v x_90_Attrs, Sl.v x_90_Kids]) ∧
∀ (w101 : World) (B_93 : Nat), New w21 B_93 w101 → Chg [] w21 w101 →
CallK Tryz.prog 60 #[.agg #[.int .i64 x_90_Kind, .string (Bs x_90_Name), .string (Bs x_90_Text), Sl.v x_90_Attrs, Sl.v x_90_Kids]] w101 [B_93] (fun v w114 => ∃ (r_112 : Int), v = .int .i64 r_112 ∧
(I64 (x_20 + 1)) ∧
J_22 (max d_19 r_112) (x_20 + 1) w114 ∧ mu_23 (max d_19 r_112) (x_20 + 1) w114 < mu_23 d_19 x_20 w21)) ∧
((¬ (x_20 < (t_1_Kids.n : Int))) →
(I64 (d_19 + 1)) ∧
R (.int .i64 (d_19 + 1)) w21))
set_option maxHeartbeats 1000000 in
set_option maxRecDepth 10000 in
theorem tree_Depth.ok (t_1_Kind : Int) (t_1_Name : Str) (t_1_Text : Str) (t_1_Attrs : Sl) (t_1_Kids : Sl) {R : Value → World → Prop} {w : World} (ht0 : tree_Depth.vc t_1_Kind t_1_Name t_1_Text t_1_Attrs t_1_Kids R w) : Calls Tryz.prog 60 #[.agg #[.int .i64 t_1_Kind, .string (Bs t_1_Name), .string (Bs t_1_Text), Sl.v t_1_Attrs, Sl.v t_1_Kids]] w (Ret R) := by
  refine enter [.agg #[.int .i64 t_1_Kind, .string (Bs t_1_Name), .string (Bs t_1_Text), Sl.v t_1_Attrs, Sl.v t_1_Kids]] Tryz.func60 rfl Tryz.ntmps60 rfl ?_
  intro a0 hA0
  unfold tree_Depth.vc at ht0
  refine wp_seq ?_
  refine wp_region_lit ?_
  refine sq (opk_new (fun B => .pointer (some ⟨B, 0, none⟩)) hA0 rfl (r_box (cs := [.int .i64 t_1_Kind, .string (Bs t_1_Name), .string (Bs t_1_Text), Sl.v t_1_Attrs, Sl.v t_1_Kids]) (hA0.get rfl) rfl) fun a4 w3 B_2 hE5 hN6 hB7 hA4 _ => ?_)
  have hN8 : New w B_2 w3 := hN6
  have hC9 : Chg [] w w3 := hE5
  refine sq (opk_val hA4 rfl (r_assign rfl) fun a10 hA10 _ => ?_)
  refine sq_end ?_
  have hA11 := hA10.keep [(1, .pointer (some (⟨B_2, 0, none⟩ : Addr)))] ⟨rfl, trivial⟩
  refine then_normal ?_
  refine wp_seq ?_
  refine wp_region_lit ?_
  refine sq (opk_val hA11 rfl (r_assign rfl) fun a12 hA12 _ => ?_)
  refine sq_end ?_
  have hA13 := hA12.keep [(1, .pointer (some (⟨B_2, 0, none⟩ : Addr))), (3, .int .i64 0)] ⟨rfl, rfl, trivial⟩
  refine then_normal ?_
  refine wp_seq ?_
  refine wp_seq ?_
  refine wp_region_lit ?_
  refine sq (opk_val hA13 rfl (r_fieldAddr (hA13.get rfl) Tryz.underlying39 rfl ti_37 (by decide)) fun a14 hA14 _ => ?_)
  refine sq (opk_val hA14 rfl (r_load1 Tryz.underlying37 rfl (hA14.get rfl) (hB7.cell 4 _ rfl)) fun a15 hA15 _ => ?_)
  refine sq (opk_val hA15 rfl (r_len (hA15.get rfl) Tryz.underlying37) fun a16 hA16 _ => ?_)
  refine sq (opk_val hA16 rfl (r_move rfl) fun a17 hA17 _ => ?_)
  refine sq_end ?_
  have hA18 := hA17.keep [(3, .int .i64 0), (7, Sl.v t_1_Kids), (8, .int .i64 (t_1_Kids.n : Int)), (9, .int .i64 0)] ⟨rfl, rfl, rfl, rfl, trivial⟩
  refine then_normal ?_
  refine wp_block ?_
  have ht74 := ht0 w3 B_2 hN8  hC9
  obtain ⟨J_22, mu_23, h077, ht76⟩ := ht74
  refine wp_loop_st (σ := Int × Int × World) (fun s a w => Ag 20 a [(3, .int .i64 s.1), (7, Sl.v t_1_Kids), (8, .int .i64 (t_1_Kids.n : Int)), (9, .int .i64 s.2.1)] ∧ w = s.2.2 ∧ J_22 s.1 s.2.1 s.2.2) (fun s => mu_23 s.1 s.2.1 s.2.2) (0, 0, w3) ⟨hA18.keep [(3, .int .i64 0), (7, Sl.v t_1_Kids), (8, .int .i64 (t_1_Kids.n : Int)), (9, .int .i64 0)] ⟨rfl, rfl, rfl, rfl, trivial⟩, rfl, h077⟩ ?_
  rintro ⟨d_19, x_20, w21⟩ a75 w_ ⟨hA75, hw_, hJ79⟩
  have hw_ : w21 = w_ := hw_.symm
  subst hw_
  have ht78 := ht76 d_19 x_20 _ hJ79
  refine wp_seq ?_
  refine wp_region_lit ?_
  refine sq (opk_val hA75 rfl (r_lss (hA75.get rfl) (hA75.get rfl)) fun a80 hA80 _ => ?_)
  refine sq_end ?_
  have hA81 := hA80.keep [(3, .int .i64 d_19), (7, Sl.v t_1_Kids), (8, .int .i64 (t_1_Kids.n : Int)), (9, .int .i64 x_20), (10, .bool (decide (x_20 < (t_1_Kids.n : Int))))] ⟨rfl, rfl, rfl, rfl, rfl, trivial⟩
  refine then_normal ?_
  refine wp_seq ?_
  refine wp_cond_split (hA81.get rfl) (fun hc => ?_) (fun hc => ?_)
  · have ht82 := ht78.1 (of_decide_eq_true hc)
    clear hc
    refine wp_skip ?_
    refine then_normal ?_
    refine wp_seq ?_
    refine wp_block ?_
    refine wp_seq ?_
    refine wp_region_lit ?_
    obtain ⟨hb85, p_84, hp86, ht87⟩ := ht82
    refine sq (opk_val hA81 rfl (r_indexAddr (hA81.get rfl) (hA81.get rfl) Tryz.underlying37 ti_39 hb85 hp86) fun a88 hA88 _ => ?_)
    obtain ⟨x_90_Kind, x_90_Name, x_90_Text, x_90_Attrs, x_90_Kids, hx91, ht92⟩ := ht87
    refine sq (opk_val hA88 rfl (r_loadN Tryz.underlying39 rfl ti_39 (hA88.get rfl) hx91) fun a89 hA89 _ => ?_)
    refine sq (opk_new (fun B => .pointer (some ⟨B, 0, none⟩)) hA89 rfl (r_alloc (cs := [.int .i64 0, .string (Bs ([] : Str)), .string (Bs ([] : Str)), Sl.v Sl.nil, Sl.v Sl.nil]) ti_39 rfl) fun a95 w94 B_93 hE96 hN97 hB98 hA95 _ => ?_)
    have hN99 : New w21 B_93 w94 := hN97
    have hC100 : Chg [] w21 w94 := hE96
    refine sq (opk_store hA95 hB98 (r_store (vs := [.int .i64 x_90_Kind, .string (Bs x_90_Name), .string (Bs x_90_Text), Sl.v x_90_Attrs, Sl.v x_90_Kids]) (hA95.get rfl) (hA95.get rfl) rfl ti_39 hB98 rfl (ones_all [.int .i64 x_90_Kind, .string (Bs x_90_Name), .string (Bs x_90_Text), Sl.v x_90_Attrs, Sl.v x_90_Kids] rfl)) fun a102 w101 hS103 hB104 hA102 => ?_)
    have hB105 : Box w101 B_93 39 [.int .i64 x_90_Kind, .string (Bs x_90_Name), .string (Bs x_90_Text), Sl.v x_90_Attrs, Sl.v x_90_Kids] := hB104
    have hC106 := hC100.storeNew hN99 hS103
    have hN107 := hN99.up hS103.size
    refine sq_end ?_
    have hA108 := hA102.keep [(3, .int .i64 d_19), (5, .pointer (some (⟨B_93, 0, none⟩ : Addr))), (7, Sl.v t_1_Kids), (8, .int .i64 (t_1_Kids.n : Int)), (9, .int .i64 x_20)] ⟨rfl, rfl, rfl, rfl, rfl, trivial⟩
    refine then_normal ?_
    refine wp_region_lit ?_
    refine sq (opk_val hA108 rfl (r_move (hA108.get rfl)) fun a109 hA109 _ => ?_)
    refine sq (opk_val hA109 rfl (r_loadN (cs := [.int .i64 x_90_Kind, .string (Bs x_90_Name), .string (Bs x_90_Text), Sl.v x_90_Attrs, Sl.v x_90_Kids]) Tryz.underlying39 rfl ti_39 (hA109.get rfl) (hB105.part 0 _ rfl)) fun a110 hA110 _ => ?_)
    have ht111 := ht92 w101 B_93 hN107  hC106
    refine sq (opk_call hA110 rfl (r_call (args := #[.agg #[.int .i64 x_90_Kind, .string (Bs x_90_Name), .string (Bs x_90_Text), Sl.v x_90_Attrs, Sl.v x_90_Kids]]) Tryz.func60 (by decide) rfl (map_arr (ml_cons (hA110.get rfl) ml_nil)) rfl) ht111 fun a113 v119 w114 hA113 _ hn116 hz117 hK118 => ?_)
    obtain ⟨r_112, rfl, ht115⟩ := hK118
    have hB120 := hB105.kept hn116 (.head _)
    refine sq (opk_val hA113 rfl (r_max (hA113.get rfl) (hA113.get rfl)) fun a121 hA121 _ => ?_)
    refine sq (opk_val hA121 rfl (r_assign (hA121.get rfl)) fun a122 hA122 _ => ?_)
    refine sq_end ?_
    have hA123 := hA122.keep [(3, .int .i64 (max d_19 r_112)), (7, Sl.v t_1_Kids), (8, .int .i64 (t_1_Kids.n : Int)), (9, .int .i64 x_20)] ⟨rfl, rfl, rfl, rfl, trivial⟩
    refine block_normal ?_
    refine then_normal ?_
    refine wp_region_lit ?_
    obtain ⟨hS125, ht126⟩ := ht115
    refine sq (opk_val hA123 rfl (r_addI (hA123.get rfl) rfl hS125) fun a124 hA124 _ => ?_)
    refine sq (opk_val hA124 rfl (r_move (hA124.get rfl)) fun a127 hA127 _ => ?_)
    refine sq_end ?_
    have hA128 := hA127.keep [(3, .int .i64 (max d_19 r_112)), (7, Sl.v t_1_Kids), (8, .int .i64 (t_1_Kids.n : Int)), (9, .int .i64 (x_20 + 1))] ⟨rfl, rfl, rfl, rfl, trivial⟩
    have hA129 := hA128.keep [(3, .int .i64 (max d_19 r_112)), (7, Sl.v t_1_Kids), (8, .int .i64 (t_1_Kids.n : Int)), (9, .int .i64 (x_20 + 1))] ⟨rfl, rfl, rfl, rfl, trivial⟩
    exact then_normal ⟨(max d_19 r_112, x_20 + 1, w114), ⟨hA129, rfl, ht126.1⟩, ht126.2⟩
  · have ht83 := ht78.2 (of_decide_eq_false hc)
    clear hc
    refine wp_exit ?_
    refine then_exit ?_
    refine then_exit ?_
    refine block_hit ?_
    have hA130 := hA81.keep [(3, .int .i64 d_19)] ⟨rfl, trivial⟩
    refine then_normal ?_
    refine wp_seq ?_
    refine wp_region_lit ?_
    refine sq (opk_val hA130 rfl (r_move (hA130.get rfl)) fun a131 hA131 _ => ?_)
    obtain ⟨hS133, ht134⟩ := ht83
    refine sq (opk_val hA131 rfl (r_addI (hA131.get rfl) rfl hS133) fun a132 hA132 _ => ?_)
    refine sq (opk_val hA132 rfl (r_assign (hA132.get rfl)) fun a135 hA135 _ => ?_)
    refine sq_end ?_
    have hA136 := hA135.keep [(2, .int .i64 (d_19 + 1))] ⟨rfl, trivial⟩
    refine then_normal ?_
    refine wp_ret ?_
    exact res_all (vs := [.int .i64 (d_19 + 1)]) rfl hA136 ⟨res_of_tmp hA136 rfl, trivial⟩ ht134

/-- The condition of topiary/tree.empty. -/
def tree_empty.vc (l_1 : Sl) (R : Value → World → Prop) (w : World) : Prop :=
∃ (J_10 : Int → World → Prop) (mu_11 : Int → World → Nat),
J_10 0 w ∧
(∀ (x_8 : Int) (w9 : World), J_10 x_8 w9 →
((x_8 < (l_1.n : Int)) →
((0 : Int) ≤ x_8 ∧ x_8 < (l_1.n : Int)) ∧ ∃ p_49 : Addr, l_1.a = some p_49 ∧
∃ (x_55 : Str), (w9.cell? (p_49.add (x_8.toNat * 1)) = some (.string (Bs x_55))) ∧
((x_55 ≠ ([] : Str)) →
R (.bool false) w9) ∧
((¬ (x_55 ≠ ([] : Str))) →
(I64 (x_8 + 1)) ∧
J_10 (x_8 + 1) w9 ∧ mu_11 (x_8 + 1) w9 < mu_11 x_8 w9)) ∧
((¬ (x_8 < (l_1.n : Int))) →
R (.bool true) w9))
set_option maxHeartbeats 1000000 in
set_option maxRecDepth 10000 in
theorem tree_empty.ok (l_1 : Sl) {R : Value → World → Prop} {w : World} (ht0 : tree_empty.vc l_1 R w) : Calls Tryz.prog 61 #[Sl.v l_1] w (Ret R) := by
  refine enter [Sl.v l_1] Tryz.func61 rfl Tryz.ntmps61 rfl ?_
  intro a0 hA0
  unfold tree_empty.vc at ht0
  refine wp_seq ?_
  refine wp_region_lit ?_
  refine sq (opk_val hA0 rfl (r_assign rfl) fun a2 hA2 _ => ?_)
  refine sq_end ?_
  have hA3 := hA2.keep [(0, Sl.v l_1)] ⟨rfl, trivial⟩
  refine then_normal ?_
  refine wp_seq ?_
  refine wp_seq ?_
  refine wp_region_lit ?_
  refine sq (opk_val hA3 rfl (r_move (hA3.get rfl)) fun a4 hA4 _ => ?_)
  refine sq (opk_val hA4 rfl (r_len (hA4.get rfl) Tryz.underlying61) fun a5 hA5 _ => ?_)
  refine sq (opk_val hA5 rfl (r_move rfl) fun a6 hA6 _ => ?_)
  refine sq_end ?_
  have hA7 := hA6.keep [(5, Sl.v l_1), (6, .int .i64 (l_1.n : Int)), (7, .int .i64 0)] ⟨rfl, rfl, rfl, trivial⟩
  refine then_normal ?_
  refine wp_block ?_
  obtain ⟨J_10, mu_11, h042, ht41⟩ := ht0
  refine wp_loop_st (σ := Int × World) (fun s a w => Ag 14 a [(5, Sl.v l_1), (6, .int .i64 (l_1.n : Int)), (7, .int .i64 s.1)] ∧ w = s.2 ∧ J_10 s.1 s.2) (fun s => mu_11 s.1 s.2) (0, w) ⟨hA7.keep [(5, Sl.v l_1), (6, .int .i64 (l_1.n : Int)), (7, .int .i64 0)] ⟨rfl, rfl, rfl, trivial⟩, rfl, h042⟩ ?_
  rintro ⟨x_8, w9⟩ a40 w_ ⟨hA40, hw_, hJ44⟩
  have hw_ : w9 = w_ := hw_.symm
  subst hw_
  have ht43 := ht41 x_8 _ hJ44
  refine wp_seq ?_
  refine wp_region_lit ?_
  refine sq (opk_val hA40 rfl (r_lss (hA40.get rfl) (hA40.get rfl)) fun a45 hA45 _ => ?_)
  refine sq_end ?_
  have hA46 := hA45.keep [(5, Sl.v l_1), (6, .int .i64 (l_1.n : Int)), (7, .int .i64 x_8), (8, .bool (decide (x_8 < (l_1.n : Int))))] ⟨rfl, rfl, rfl, rfl, trivial⟩
  refine then_normal ?_
  refine wp_seq ?_
  refine wp_cond_split (hA46.get rfl) (fun hc => ?_) (fun hc => ?_)
  · have ht47 := ht43.1 (of_decide_eq_true hc)
    clear hc
    refine wp_skip ?_
    refine then_normal ?_
    refine wp_seq ?_
    refine wp_block ?_
    refine wp_seq ?_
    refine wp_region_lit ?_
    obtain ⟨hb50, p_49, hp51, ht52⟩ := ht47
    refine sq (opk_val hA46 rfl (r_indexAddr (hA46.get rfl) (hA46.get rfl) Tryz.underlying61 ti_9 hb50 hp51) fun a53 hA53 _ => ?_)
    obtain ⟨x_55, hx56, ht57⟩ := ht52
    refine sq (opk_val hA53 rfl (r_load1 Tryz.underlying9 rfl (hA53.get rfl) hx56) fun a54 hA54 _ => ?_)
    refine sq (opk_val hA54 rfl (r_assign (hA54.get rfl)) fun a58 hA58 _ => ?_)
    refine sq_end ?_
    have hA59 := hA58.keep [(4, .string (Bs x_55)), (5, Sl.v l_1), (6, .int .i64 (l_1.n : Int)), (7, .int .i64 x_8)] ⟨rfl, rfl, rfl, rfl, trivial⟩
    refine then_normal ?_
    refine wp_seq ?_
    refine wp_region_lit ?_
    refine sq (opk_val hA59 rfl (r_move (hA59.get rfl)) fun a60 hA60 _ => ?_)
    refine sq (opk_val hA60 rfl (r_sneq (hA60.get rfl) rfl) fun a61 hA61 _ => ?_)
    refine sq_end ?_
    have hA62 := hA61.keep [(5, Sl.v l_1), (6, .int .i64 (l_1.n : Int)), (7, .int .i64 x_8), (12, .bool (decide (x_55 ≠ ([] : Str))))] ⟨rfl, rfl, rfl, rfl, trivial⟩
    refine then_normal ?_
    refine wp_cond_split (hA62.get rfl) (fun hc => ?_) (fun hc => ?_)
    · have ht63 := ht57.1 (of_decide_eq_true hc)
      clear hc
      refine wp_seq ?_
      refine wp_region_lit ?_
      refine sq (opk_val hA62 rfl (r_assign rfl) fun a65 hA65 _ => ?_)
      refine sq_end ?_
      have hA66 := hA65.keep [(2, .bool false)] ⟨rfl, trivial⟩
      refine then_normal ?_
      refine wp_ret ?_
      refine block_ret ?_
      refine then_ret ?_
      refine then_ret ?_
      refine block_ret ?_
      refine then_ret ?_
      exact res_all (vs := [.bool false]) rfl hA66 ⟨res_of_tmp hA66 rfl, trivial⟩ ht63
    · have ht64 := ht57.2 (of_decide_eq_false hc)
      clear hc
      refine wp_skip ?_
      refine block_normal ?_
      refine then_normal ?_
      refine wp_region_lit ?_
      obtain ⟨hS68, ht69⟩ := ht64
      refine sq (opk_val hA62 rfl (r_addI (hA62.get rfl) rfl hS68) fun a67 hA67 _ => ?_)
      refine sq (opk_val hA67 rfl (r_move (hA67.get rfl)) fun a70 hA70 _ => ?_)
      refine sq_end ?_
      have hA71 := hA70.keep [(5, Sl.v l_1), (6, .int .i64 (l_1.n : Int)), (7, .int .i64 (x_8 + 1))] ⟨rfl, rfl, rfl, trivial⟩
      have hA72 := hA71.keep [(5, Sl.v l_1), (6, .int .i64 (l_1.n : Int)), (7, .int .i64 (x_8 + 1))] ⟨rfl, rfl, rfl, trivial⟩
      exact then_normal ⟨(x_8 + 1, w9), ⟨hA72, rfl, ht69.1⟩, ht69.2⟩
  · have ht48 := ht43.2 (of_decide_eq_false hc)
    clear hc
    refine wp_exit ?_
    refine then_exit ?_
    refine then_exit ?_
    refine block_hit ?_
    have hA73 := hA46.keep [] trivial
    refine then_normal ?_
    refine wp_seq ?_
    refine wp_region_lit ?_
    refine sq (opk_val hA73 rfl (r_assign rfl) fun a74 hA74 _ => ?_)
    refine sq_end ?_
    have hA75 := hA74.keep [(2, .bool true)] ⟨rfl, trivial⟩
    refine then_normal ?_
    refine wp_ret ?_
    exact res_all (vs := [.bool true]) rfl hA75 ⟨res_of_tmp hA75 rfl, trivial⟩ ht48

/-- The condition of topiary/tree.kids. -/
def tree_kids.vc (t_1_Kind : Int) (t_1_Name : Str) (t_1_Text : Str) (t_1_Attrs : Sl) (t_1_Kids : Sl) (R : Value → World → Prop) (w : World) : Prop :=
∀ (w3 : World) (B_2 : Nat), New w B_2 w3 → Chg [] w w3 →
∃ (J_19 : Int → World → Prop) (mu_20 : Int → World → Nat),
J_19 0 w3 ∧
(∀ (x_17 : Int) (w18 : World), J_19 x_17 w18 →
((x_17 < (t_1_Kids.n : Int)) →
((0 : Int) ≤ x_17 ∧ x_17 < (t_1_Kids.n : Int)) ∧ ∃ p_99 : Addr, t_1_Kids.a = some p_99 ∧
∃ (x_105_Kind : Int) (x_105_Name : Str) (x_105_Text : Str) (x_105_Attrs : Sl) (x_105_Kids : Sl), (Cells w18 (p_99.add (x_17.toNat * 5)) [.int .i64 x_105_Kind, .string (Bs x_105_Name), .string (Bs x_105_Text), Sl.v x_105_Attrs, Sl.v x_105_Kids]) ∧
∀ (w118 : World) (B_108 : Nat), New w18 B_108 w118 → Chg [] w18 w118 →
CallK Tryz.prog 112 #[.agg #[.int .i64 x_105_Kind, .string (Bs x_105_Name), .string (Bs x_105_Text), Sl.v x_105_Attrs, Sl.v x_105_Kids]] w118 [B_2, B_108] (fun v w131 => ∃ (r_129 : Bool), v = .bool r_129 ∧
(((r_129 = false) ∨ ((x_105_Kind = 5) ∧ (t_1_Kind ≠ 1))) →
R (.bool false) w131) ∧
(((r_129 = true) ∧ ((¬ (x_105_Kind = 5)) ∨ (¬ (t_1_Kind ≠ 1)))) →
(I64 (x_17 + 1)) ∧
J_19 (x_17 + 1) w131 ∧ mu_20 (x_17 + 1) w131 < mu_20 x_17 w18))) ∧
((¬ (x_17 < (t_1_Kids.n : Int))) →
R (.bool true) w18))
set_option maxHeartbeats 1000000 in
set_option maxRecDepth 10000 in
theorem tree_kids.ok (t_1_Kind : Int) (t_1_Name : Str) (t_1_Text : Str) (t_1_Attrs : Sl) (t_1_Kids : Sl) {R : Value → World → Prop} {w : World} (ht0 : tree_kids.vc t_1_Kind t_1_Name t_1_Text t_1_Attrs t_1_Kids R w) : Calls Tryz.prog 62 #[.agg #[.int .i64 t_1_Kind, .string (Bs t_1_Name), .string (Bs t_1_Text), Sl.v t_1_Attrs, Sl.v t_1_Kids]] w (Ret R) := by
  refine enter [.agg #[.int .i64 t_1_Kind, .string (Bs t_1_Name), .string (Bs t_1_Text), Sl.v t_1_Attrs, Sl.v t_1_Kids]] Tryz.func62 rfl Tryz.ntmps62 rfl ?_
  intro a0 hA0
  unfold tree_kids.vc at ht0
  refine wp_seq ?_
  refine wp_region_lit ?_
  refine sq (opk_new (fun B => .pointer (some ⟨B, 0, none⟩)) hA0 rfl (r_box (cs := [.int .i64 t_1_Kind, .string (Bs t_1_Name), .string (Bs t_1_Text), Sl.v t_1_Attrs, Sl.v t_1_Kids]) (hA0.get rfl) rfl) fun a4 w3 B_2 hE5 hN6 hB7 hA4 _ => ?_)
  have hN8 : New w B_2 w3 := hN6
  have hC9 : Chg [] w w3 := hE5
  refine sq (opk_val hA4 rfl (r_assign rfl) fun a10 hA10 _ => ?_)
  refine sq_end ?_
  have hA11 := hA10.keep [(1, .pointer (some (⟨B_2, 0, none⟩ : Addr)))] ⟨rfl, trivial⟩
  refine then_normal ?_
  refine wp_seq ?_
  refine wp_seq ?_
  refine wp_region_lit ?_
  refine sq (opk_val hA11 rfl (r_fieldAddr (hA11.get rfl) Tryz.underlying39 rfl ti_37 (by decide)) fun a12 hA12 _ => ?_)
  refine sq (opk_val hA12 rfl (r_load1 Tryz.underlying37 rfl (hA12.get rfl) (hB7.cell 4 _ rfl)) fun a13 hA13 _ => ?_)
  refine sq (opk_val hA13 rfl (r_len (hA13.get rfl) Tryz.underlying37) fun a14 hA14 _ => ?_)
  refine sq (opk_val hA14 rfl (r_move rfl) fun a15 hA15 _ => ?_)
  refine sq_end ?_
  have hA16 := hA15.keep [(1, .pointer (some (⟨B_2, 0, none⟩ : Addr))), (6, Sl.v t_1_Kids), (7, .int .i64 (t_1_Kids.n : Int)), (8, .int .i64 0)] ⟨rfl, rfl, rfl, rfl, trivial⟩
  refine then_normal ?_
  refine wp_block ?_
  have ht88 := ht0 w3 B_2 hN8  hC9
  obtain ⟨J_19, mu_20, h092, ht91⟩ := ht88
  refine wp_loop_st (σ := Int × World) (fun s a w => Ag 26 a [(1, .pointer (some (⟨B_2, 0, none⟩ : Addr))), (6, Sl.v t_1_Kids), (7, .int .i64 (t_1_Kids.n : Int)), (8, .int .i64 s.1)] ∧ Box w B_2 39 [.int .i64 t_1_Kind, .string (Bs t_1_Name), .string (Bs t_1_Text), Sl.v t_1_Attrs, Sl.v t_1_Kids] ∧ w = s.2 ∧ J_19 s.1 s.2) (fun s => mu_20 s.1 s.2) (0, w3) ⟨hA16.keep [(1, .pointer (some (⟨B_2, 0, none⟩ : Addr))), (6, Sl.v t_1_Kids), (7, .int .i64 (t_1_Kids.n : Int)), (8, .int .i64 0)] ⟨rfl, rfl, rfl, rfl, trivial⟩, hB7, rfl, h092⟩ ?_
  rintro ⟨x_17, w18⟩ a89 w_ ⟨hA89, hB90, hw_, hJ94⟩
  have hw_ : w18 = w_ := hw_.symm
  subst hw_
  have ht93 := ht91 x_17 _ hJ94
  refine wp_seq ?_
  refine wp_region_lit ?_
  refine sq (opk_val hA89 rfl (r_lss (hA89.get rfl) (hA89.get rfl)) fun a95 hA95 _ => ?_)
  refine sq_end ?_
  have hA96 := hA95.keep [(1, .pointer (some (⟨B_2, 0, none⟩ : Addr))), (6, Sl.v t_1_Kids), (7, .int .i64 (t_1_Kids.n : Int)), (8, .int .i64 x_17), (9, .bool (decide (x_17 < (t_1_Kids.n : Int))))] ⟨rfl, rfl, rfl, rfl, rfl, trivial⟩
  refine then_normal ?_
  refine wp_seq ?_
  refine wp_cond_split (hA96.get rfl) (fun hc => ?_) (fun hc => ?_)
  · have ht97 := ht93.1 (of_decide_eq_true hc)
    clear hc
    refine wp_skip ?_
    refine then_normal ?_
    refine wp_seq ?_
    refine wp_block ?_
    refine wp_seq ?_
    refine wp_region_lit ?_
    obtain ⟨hb100, p_99, hp101, ht102⟩ := ht97
    refine sq (opk_val hA96 rfl (r_indexAddr (hA96.get rfl) (hA96.get rfl) Tryz.underlying37 ti_39 hb100 hp101) fun a103 hA103 _ => ?_)
    obtain ⟨x_105_Kind, x_105_Name, x_105_Text, x_105_Attrs, x_105_Kids, hx106, ht107⟩ := ht102
    refine sq (opk_val hA103 rfl (r_loadN Tryz.underlying39 rfl ti_39 (hA103.get rfl) hx106) fun a104 hA104 _ => ?_)
    refine sq (opk_new (fun B => .pointer (some ⟨B, 0, none⟩)) hA104 rfl (r_alloc (cs := [.int .i64 0, .string (Bs ([] : Str)), .string (Bs ([] : Str)), Sl.v Sl.nil, Sl.v Sl.nil]) ti_39 rfl) fun a110 w109 B_108 hE111 hN112 hB113 hA110 _ => ?_)
    have hne114 : B_2 ≠ B_108 := Nat.ne_of_lt (Nat.lt_of_lt_of_le hB90.lt hN112.ge)
    have hN115 : New w18 B_108 w109 := hN112
    have hB116 := hB90.ext hE111
    have hC117 : Chg [] w18 w109 := hE111
    refine sq (opk_store hA110 hB113 (r_store (vs := [.int .i64 x_105_Kind, .string (Bs x_105_Name), .string (Bs x_105_Text), Sl.v x_105_Attrs, Sl.v x_105_Kids]) (hA110.get rfl) (hA110.get rfl) rfl ti_39 hB113 rfl (ones_all [.int .i64 x_105_Kind, .string (Bs x_105_Name), .string (Bs x_105_Text), Sl.v x_105_Attrs, Sl.v x_105_Kids] rfl)) fun a119 w118 hS120 hB121 hA119 => ?_)
    have hB122 : Box w118 B_108 39 [.int .i64 x_105_Kind, .string (Bs x_105_Name), .string (Bs x_105_Text), Sl.v x_105_Attrs, Sl.v x_105_Kids] := hB121
    have hB123 := hB116.keep hS120 (by simpa using hne114)
    have hC124 := hC117.storeNew hN115 hS120
    have hN125 := hN115.up hS120.size
    refine sq_end ?_
    have hA126 := hA119.keep [(1, .pointer (some (⟨B_2, 0, none⟩ : Addr))), (4, .pointer (some (⟨B_108, 0, none⟩ : Addr))), (6, Sl.v t_1_Kids), (7, .int .i64 (t_1_Kids.n : Int)), (8, .int .i64 x_17)] ⟨rfl, rfl, rfl, rfl, rfl, trivial⟩
    refine then_normal ?_
    refine wp_seq ?_
    refine wp_region_lit ?_
    refine sq (opk_val hA126 rfl (r_loadN (cs := [.int .i64 x_105_Kind, .string (Bs x_105_Name), .string (Bs x_105_Text), Sl.v x_105_Attrs, Sl.v x_105_Kids]) Tryz.underlying39 rfl ti_39 (hA126.get rfl) (hB122.part 0 _ rfl)) fun a127 hA127 _ => ?_)
    have ht128 := ht107 w118 B_108 hN125  hC124
    refine sq (opk_call hA127 rfl (r_call (args := #[.agg #[.int .i64 x_105_Kind, .string (Bs x_105_Name), .string (Bs x_105_Text), Sl.v x_105_Attrs, Sl.v x_105_Kids]]) Tryz.func112 (by decide) rfl (map_arr (ml_cons (hA127.get rfl) ml_nil)) rfl) ht128 fun a130 v136 w131 hA130 _ hn133 hz134 hK135 => ?_)
    obtain ⟨r_129, rfl, ht132⟩ := hK135
    have hB137 := hB123.kept hn133 (.head _)
    have hB138 := hB122.kept hn133 (.tail _ (.head _))
    refine sq (opk_val hA130 rfl (r_not (hA130.get rfl)) fun a139 hA139 _ => ?_)
    refine sq (opk_val hA139 rfl (r_move (hA139.get rfl)) fun a140 hA140 _ => ?_)
    refine sq (opk_gval hA140 rfl rfl (g := true) (e := (!r_129)) rfl (fun hg => r_fieldAddr (hA140.get rfl) Tryz.underlying39 rfl ti_3 (by decide)) fun a141 hA141 _ => ?_)
    refine sq (opk_gval hA141 rfl rfl (g := true) (e := (!r_129)) rfl (fun hg => r_load1 Tryz.underlying3 rfl (cv_get (hA141.get rfl) hg) (hB138.cell 0 _ rfl)) fun a142 hA142 _ => ?_)
    refine sq (opk_gval hA142 rfl rfl (g := true) (e := (!r_129)) rfl (fun hg => r_eql (cv_get (hA142.get rfl) hg) rfl) fun a143 hA143 _ => ?_)
    refine sq (opk_gval hA143 rfl rfl (g := true) (e := (!r_129)) rfl (fun hg => r_move (cv_get (hA143.get rfl) hg)) fun a144 hA144 _ => ?_)
    refine sq (opk_gval hA144 rfl rfl (g := (true && ((!r_129) == false))) (e := (decide (x_105_Kind = 5))) rfl (fun hg => r_fieldAddr (hA144.get rfl) Tryz.underlying39 rfl ti_3 (by decide)) fun a145 hA145 _ => ?_)
    refine sq (opk_gval hA145 rfl rfl (g := (true && ((!r_129) == false))) (e := (decide (x_105_Kind = 5))) rfl (fun hg => r_load1 Tryz.underlying3 rfl (cv_get (hA145.get rfl) hg) (hB137.cell 0 _ rfl)) fun a146 hA146 _ => ?_)
    refine sq (opk_gval hA146 rfl rfl (g := (true && ((!r_129) == false))) (e := (decide (x_105_Kind = 5))) rfl (fun hg => r_neq (cv_get (hA146.get rfl) hg) rfl) fun a147 hA147 _ => ?_)
    refine sq (opk_gval hA147 rfl rfl (g := true) (e := (!r_129)) rfl (fun hg => r_pick_and (g := ((true && ((!r_129) == false)) && ((decide (x_105_Kind = 5)) == true))) (cv_get (hA147.get rfl) hg) (hA147.get rfl) (fun he => g_mkt hg he)) fun a148 hA148 _ => ?_)
    refine sq (opk_val hA148 rfl (r_pick_or (g := (true && ((!r_129) == false))) (hA148.get rfl) (hA148.get rfl) (fun he => g_mkf rfl he)) fun a149 hA149 _ => ?_)
    refine sq_end ?_
    have hA150 := hA149.keep [(1, .pointer (some (⟨B_2, 0, none⟩ : Addr))), (6, Sl.v t_1_Kids), (7, .int .i64 (t_1_Kids.n : Int)), (8, .int .i64 x_17), (24, .bool ((!r_129) || ((decide (x_105_Kind = 5)) && (decide (t_1_Kind ≠ 1)))))] ⟨rfl, rfl, rfl, rfl, rfl, trivial⟩
    refine then_normal ?_
    refine wp_cond_split (hA150.get rfl) (fun hc => ?_) (fun hc => ?_)
    · have ht151 := ht132.1 ((b_or_t hc).imp (fun h => (b_not_t h)) (fun h => ⟨(of_decide_eq_true (b_and_t h).1), (of_decide_eq_true (b_and_t h).2)⟩))
      clear hc
      refine wp_seq ?_
      refine wp_region_lit ?_
      refine sq (opk_val hA150 rfl (r_assign rfl) fun a153 hA153 _ => ?_)
      refine sq_end ?_
      have hA154 := hA153.keep [(2, .bool false)] ⟨rfl, trivial⟩
      refine then_normal ?_
      refine wp_ret ?_
      refine block_ret ?_
      refine then_ret ?_
      refine then_ret ?_
      refine block_ret ?_
      refine then_ret ?_
      exact res_all (vs := [.bool false]) rfl hA154 ⟨res_of_tmp hA154 rfl, trivial⟩ ht151
    · have ht152 := ht132.2 ⟨(b_not_f (b_or_f hc).1), ((b_and_f (b_or_f hc).2).imp (fun h => (of_decide_eq_false h)) (fun h => (of_decide_eq_false h)))⟩
      clear hc
      refine wp_skip ?_
      refine block_normal ?_
      refine then_normal ?_
      refine wp_region_lit ?_
      obtain ⟨hS156, ht157⟩ := ht152
      refine sq (opk_val hA150 rfl (r_addI (hA150.get rfl) rfl hS156) fun a155 hA155 _ => ?_)
      refine sq (opk_val hA155 rfl (r_move (hA155.get rfl)) fun a158 hA158 _ => ?_)
      refine sq_end ?_
      have hA159 := hA158.keep [(1, .pointer (some (⟨B_2, 0, none⟩ : Addr))), (6, Sl.v t_1_Kids), (7, .int .i64 (t_1_Kids.n : Int)), (8, .int .i64 (x_17 + 1))] ⟨rfl, rfl, rfl, rfl, trivial⟩
      have hA160 := hA159.keep [(1, .pointer (some (⟨B_2, 0, none⟩ : Addr))), (6, Sl.v t_1_Kids), (7, .int .i64 (t_1_Kids.n : Int)), (8, .int .i64 (x_17 + 1))] ⟨rfl, rfl, rfl, rfl, trivial⟩
      exact then_normal ⟨(x_17 + 1, w131), ⟨hA160, hB137, rfl, ht157.1⟩, ht157.2⟩
  · have ht98 := ht93.2 (of_decide_eq_false hc)
    clear hc
    refine wp_exit ?_
    refine then_exit ?_
    refine then_exit ?_
    refine block_hit ?_
    have hA161 := hA96.keep [] trivial
    refine then_normal ?_
    refine wp_seq ?_
    refine wp_region_lit ?_
    refine sq (opk_val hA161 rfl (r_assign rfl) fun a162 hA162 _ => ?_)
    refine sq_end ?_
    have hA163 := hA162.keep [(2, .bool true)] ⟨rfl, trivial⟩
    refine then_normal ?_
    refine wp_ret ?_
    exact res_all (vs := [.bool true]) rfl hA163 ⟨res_of_tmp hA163 rfl, trivial⟩ ht98

/-- The condition of topiary/tree.node. -/
def tree_node.vc (t_1_Kind : Int) (t_1_Name : Str) (t_1_Text : Str) (t_1_Attrs : Sl) (t_1_Kids : Sl) (R : Value → World → Prop) (w : World) : Prop :=
((t_1_Kind = 2) →
∀ (w3 : World) (B_2 : Nat), New w B_2 w3 → Chg [] w w3 →
CallK Tryz.prog 149 #[.string (Bs t_1_Name)] w3 [B_2] (fun v w23 => ∃ (r_21 : Bool), v = .bool r_21 ∧
∃ (r_38 : Bool), ((((r_21 = true) ∧ (t_1_Text = ([] : Str)))) → Calls Tryz.prog 152 #[Sl.v t_1_Attrs] w23 (Ret fun v w' => Ext w23 w' ∧ v = .bool r_38)) ∧
(∀ w40 : World, Ext w23 w40 →
∃ (r_50 : Bool), (((((r_21 = true) ∧ (t_1_Text = ([] : Str))) ∧ (r_38 = true))) → Calls Tryz.prog 62 #[.agg #[.int .i64 t_1_Kind, .string (Bs t_1_Name), .string (Bs t_1_Text), Sl.v t_1_Attrs, Sl.v t_1_Kids]] w40 (Ret fun v w' => Ext w40 w' ∧ v = .bool r_50)) ∧
(∀ w52 : World, Ext w40 w52 →
R (.bool (((r_21 && (decide (t_1_Text = ([] : Str)))) && r_38) && r_50)) w52)))) ∧
((¬ (t_1_Kind = 2)) →
(((0 < (t_1_Attrs.n : Int)) ∨ (0 < (t_1_Kids.n : Int))) →
∀ (w3 : World) (B_2 : Nat), New w B_2 w3 → Chg [] w w3 →
R (.bool false) w3) ∧
(((¬ (0 < (t_1_Attrs.n : Int))) ∧ (¬ (0 < (t_1_Kids.n : Int)))) →
((t_1_Kind = 3) →
∀ (w3 : World) (B_2 : Nat), New w B_2 w3 → Chg [] w w3 →
R (.bool (((decide (t_1_Name = ([] : Str))) && (decide (t_1_Text ≠ ([] : Str)))) && (decide ((t_1_Text.length : Int) ≤ 4096)))) w3) ∧
((¬ (t_1_Kind = 3)) →
((t_1_Kind = 4) →
∀ (w3 : World) (B_2 : Nat), New w B_2 w3 → Chg [] w w3 →
R (.bool ((decide (t_1_Name = ([] : Str))) && (decide ((t_1_Text.length : Int) ≤ 4096)))) w3) ∧
((¬ (t_1_Kind = 4)) →
((t_1_Kind = 5) →
∀ (w3 : World) (B_2 : Nat), New w B_2 w3 → Chg [] w w3 →
R (.bool ((decide (t_1_Text = ([] : Str))) && (decide ((t_1_Name.length : Int) ≤ 32)))) w3) ∧
((¬ (t_1_Kind = 5)) →
∀ (w3 : World) (B_2 : Nat), New w B_2 w3 → Chg [] w w3 →
R (.bool false) w3)))))
set_option maxHeartbeats 1000000 in
set_option maxRecDepth 10000 in
theorem tree_node.ok (t_1_Kind : Int) (t_1_Name : Str) (t_1_Text : Str) (t_1_Attrs : Sl) (t_1_Kids : Sl) {R : Value → World → Prop} {w : World} (ht0 : tree_node.vc t_1_Kind t_1_Name t_1_Text t_1_Attrs t_1_Kids R w) : Calls Tryz.prog 112 #[.agg #[.int .i64 t_1_Kind, .string (Bs t_1_Name), .string (Bs t_1_Text), Sl.v t_1_Attrs, Sl.v t_1_Kids]] w (Ret R) := by
  refine enter [.agg #[.int .i64 t_1_Kind, .string (Bs t_1_Name), .string (Bs t_1_Text), Sl.v t_1_Attrs, Sl.v t_1_Kids]] Tryz.func112 rfl Tryz.ntmps112 rfl ?_
  intro a0 hA0
  unfold tree_node.vc at ht0
  refine wp_seq ?_
  refine wp_region_lit ?_
  refine sq (opk_new (fun B => .pointer (some ⟨B, 0, none⟩)) hA0 rfl (r_box (cs := [.int .i64 t_1_Kind, .string (Bs t_1_Name), .string (Bs t_1_Text), Sl.v t_1_Attrs, Sl.v t_1_Kids]) (hA0.get rfl) rfl) fun a4 w3 B_2 hE5 hN6 hB7 hA4 _ => ?_)
  have hN8 : New w B_2 w3 := hN6
  have hC9 : Chg [] w w3 := hE5
  refine sq (opk_val hA4 rfl (r_assign rfl) fun a10 hA10 _ => ?_)
  refine sq_end ?_
  have hA11 := hA10.keep [(1, .pointer (some (⟨B_2, 0, none⟩ : Addr)))] ⟨rfl, trivial⟩
  refine then_normal ?_
  refine wp_seq ?_
  refine wp_seq ?_
  refine wp_region_lit ?_
  refine sq (opk_val hA11 rfl (r_fieldAddr (hA11.get rfl) Tryz.underlying39 rfl ti_3 (by decide)) fun a12 hA12 _ => ?_)
  refine sq (opk_val hA12 rfl (r_load1 Tryz.underlying3 rfl (hA12.get rfl) (hB7.cell 0 _ rfl)) fun a13 hA13 _ => ?_)
  refine sq (opk_val hA13 rfl (r_eql (hA13.get rfl) rfl) fun a14 hA14 _ => ?_)
  refine sq_end ?_
  have hA15 := hA14.keep [(1, .pointer (some (⟨B_2, 0, none⟩ : Addr))), (5, .bool (decide (t_1_Kind = 2)))] ⟨rfl, rfl, trivial⟩
  refine then_normal ?_
  refine wp_cond_split (hA15.get rfl) (fun hc => ?_) (fun hc => ?_)
  · have ht16 := ht0.1 (of_decide_eq_true hc)
    clear hc
    refine wp_seq ?_
    refine wp_region_lit ?_
    refine sq (opk_val hA15 rfl (r_fieldAddr (hA15.get rfl) Tryz.underlying39 rfl ti_9 (by decide)) fun a18 hA18 _ => ?_)
    refine sq (opk_val hA18 rfl (r_load1 Tryz.underlying9 rfl (hA18.get rfl) (hB7.cell 1 _ rfl)) fun a19 hA19 _ => ?_)
    have ht20 := ht16 w3 B_2 hN8  hC9
    refine sq (opk_call hA19 rfl (r_call (args := #[.string (Bs t_1_Name)]) Tryz.func149 (by decide) rfl (map_arr (ml_cons (hA19.get rfl) ml_nil)) rfl) ht20 fun a22 v28 w23 hA22 _ hn25 hz26 hK27 => ?_)
    obtain ⟨r_21, rfl, ht24⟩ := hK27
    have hB29 := hB7.kept hn25 (.head _)
    refine sq (opk_val hA22 rfl (r_move (hA22.get rfl)) fun a30 hA30 _ => ?_)
    refine sq (opk_gval hA30 rfl rfl (g := true) (e := r_21) rfl (fun hg => r_fieldAddr (hA30.get rfl) Tryz.underlying39 rfl ti_9 (by decide)) fun a31 hA31 _ => ?_)
    refine sq (opk_gval hA31 rfl rfl (g := true) (e := r_21) rfl (fun hg => r_load1 Tryz.underlying9 rfl (cv_get (hA31.get rfl) hg) (hB29.cell 2 _ rfl)) fun a32 hA32 _ => ?_)
    refine sq (opk_gval hA32 rfl rfl (g := true) (e := r_21) rfl (fun hg => r_seql (cv_get (hA32.get rfl) hg) rfl) fun a33 hA33 _ => ?_)
    refine sq (opk_val hA33 rfl (r_pick_and (g := (true && (r_21 == true))) (hA33.get rfl) (hA33.get rfl) (fun he => g_mkt rfl he)) fun a34 hA34 _ => ?_)
    refine sq (opk_val hA34 rfl (r_move (hA34.get rfl)) fun a35 hA35 _ => ?_)
    refine sq (opk_gval hA35 rfl rfl (g := true) (e := (r_21 && (decide (t_1_Text = ([] : Str))))) rfl (fun hg => r_fieldAddr (hA35.get rfl) Tryz.underlying39 rfl ti_36 (by decide)) fun a36 hA36 _ => ?_)
    refine sq (opk_gval hA36 rfl rfl (g := true) (e := (r_21 && (decide (t_1_Text = ([] : Str))))) rfl (fun hg => r_load1 Tryz.underlying36 rfl (cv_get (hA36.get rfl) hg) (hB29.cell 3 _ rfl)) fun a37 hA37 _ => ?_)
    obtain ⟨r_38, hc42, ht41⟩ := ht24
    refine sq (opk_gcall hA37 rfl rfl (g := true) (e := (r_21 && (decide (t_1_Text = ([] : Str))))) rfl (fun hg => r_call (args := #[Sl.v t_1_Attrs]) Tryz.func152 (by decide) rfl (map_arr (ml_cons (cv_get (hA37.get rfl) hg) ml_nil)) rfl) (fun hg => hc42 ⟨(b_and_t (g_t hg)).1, (of_decide_eq_true (b_and_t (g_t hg)).2)⟩) fun a39 w40 hA39 _ hE43 => ?_)
    have hB44 := hB29.ext hE43
    have hC45 : Chg [] w23 w40 := hE43
    have ht46 := ht41 w40 hE43
    refine sq (opk_val hA39 rfl (r_pick_and (g := (true && ((r_21 && (decide (t_1_Text = ([] : Str)))) == true))) (hA39.get rfl) (hA39.get rfl) (fun he => g_mkt rfl he)) fun a47 hA47 _ => ?_)
    refine sq (opk_val hA47 rfl (r_move (hA47.get rfl)) fun a48 hA48 _ => ?_)
    refine sq (opk_gval hA48 rfl rfl (g := true) (e := ((r_21 && (decide (t_1_Text = ([] : Str)))) && r_38)) rfl (fun hg => r_loadN (cs := [.int .i64 t_1_Kind, .string (Bs t_1_Name), .string (Bs t_1_Text), Sl.v t_1_Attrs, Sl.v t_1_Kids]) Tryz.underlying39 rfl ti_39 (hA48.get rfl) (hB44.part 0 _ rfl)) fun a49 hA49 _ => ?_)
    obtain ⟨r_50, hc54, ht53⟩ := ht46
    refine sq (opk_gcall hA49 rfl rfl (g := true) (e := ((r_21 && (decide (t_1_Text = ([] : Str)))) && r_38)) rfl (fun hg => r_call (args := #[.agg #[.int .i64 t_1_Kind, .string (Bs t_1_Name), .string (Bs t_1_Text), Sl.v t_1_Attrs, Sl.v t_1_Kids]]) Tryz.func62 (by decide) rfl (map_arr (ml_cons (cv_get (hA49.get rfl) hg) ml_nil)) rfl) (fun hg => hc54 ⟨⟨(b_and_t (b_and_t (g_t hg)).1).1, (of_decide_eq_true (b_and_t (b_and_t (g_t hg)).1).2)⟩, (b_and_t (g_t hg)).2⟩) fun a51 w52 hA51 _ hE55 => ?_)
    have hB56 := hB44.ext hE55
    have hC57 : Chg [] w40 w52 := hE55
    have ht58 := ht53 w52 hE55
    refine sq (opk_val hA51 rfl (r_pick_and (g := (true && (((r_21 && (decide (t_1_Text = ([] : Str)))) && r_38) == true))) (hA51.get rfl) (hA51.get rfl) (fun he => g_mkt rfl he)) fun a59 hA59 _ => ?_)
    refine sq (opk_val hA59 rfl (r_assign (hA59.get rfl)) fun a60 hA60 _ => ?_)
    refine sq_end ?_
    have hA61 := hA60.keep [(2, .bool (((r_21 && (decide (t_1_Text = ([] : Str)))) && r_38) && r_50))] ⟨rfl, trivial⟩
    refine then_normal ?_
    refine wp_ret ?_
    refine then_ret ?_
    exact res_all (vs := [.bool (((r_21 && (decide (t_1_Text = ([] : Str)))) && r_38) && r_50)]) rfl hA61 ⟨res_of_tmp hA61 rfl, trivial⟩ ht58
  · have ht17 := ht0.2 (of_decide_eq_false hc)
    clear hc
    refine wp_skip ?_
    refine then_normal ?_
    refine wp_seq ?_
    refine wp_seq ?_
    refine wp_region_lit ?_
    refine sq (opk_val hA15 rfl (r_fieldAddr (hA15.get rfl) Tryz.underlying39 rfl ti_36 (by decide)) fun a62 hA62 _ => ?_)
    refine sq (opk_val hA62 rfl (r_load1 Tryz.underlying36 rfl (hA62.get rfl) (hB7.cell 3 _ rfl)) fun a63 hA63 _ => ?_)
    refine sq (opk_val hA63 rfl (r_len (hA63.get rfl) Tryz.underlying36) fun a64 hA64 _ => ?_)
    refine sq (opk_val hA64 rfl (r_gtr (hA64.get rfl) rfl) fun a65 hA65 _ => ?_)
    refine sq (opk_val hA65 rfl (r_move (hA65.get rfl)) fun a66 hA66 _ => ?_)
    refine sq (opk_gval hA66 rfl rfl (g := true) (e := (decide (0 < (t_1_Attrs.n : Int)))) rfl (fun hg => r_fieldAddr (hA66.get rfl) Tryz.underlying39 rfl ti_37 (by decide)) fun a67 hA67 _ => ?_)
    refine sq (opk_gval hA67 rfl rfl (g := true) (e := (decide (0 < (t_1_Attrs.n : Int)))) rfl (fun hg => r_load1 Tryz.underlying37 rfl (cv_get (hA67.get rfl) hg) (hB7.cell 4 _ rfl)) fun a68 hA68 _ => ?_)
    refine sq (opk_gval hA68 rfl rfl (g := true) (e := (decide (0 < (t_1_Attrs.n : Int)))) rfl (fun hg => r_len (cv_get (hA68.get rfl) hg) Tryz.underlying37) fun a69 hA69 _ => ?_)
    refine sq (opk_gval hA69 rfl rfl (g := true) (e := (decide (0 < (t_1_Attrs.n : Int)))) rfl (fun hg => r_gtr (cv_get (hA69.get rfl) hg) rfl) fun a70 hA70 _ => ?_)
    refine sq (opk_val hA70 rfl (r_pick_or (g := (true && ((decide (0 < (t_1_Attrs.n : Int))) == false))) (hA70.get rfl) (hA70.get rfl) (fun he => g_mkf rfl he)) fun a71 hA71 _ => ?_)
    refine sq_end ?_
    have hA72 := hA71.keep [(1, .pointer (some (⟨B_2, 0, none⟩ : Addr))), (32, .bool ((decide (0 < (t_1_Attrs.n : Int))) || (decide (0 < (t_1_Kids.n : Int)))))] ⟨rfl, rfl, trivial⟩
    refine then_normal ?_
    refine wp_cond_split (hA72.get rfl) (fun hc => ?_) (fun hc => ?_)
    · have ht73 := ht17.1 ((b_or_t hc).imp (fun h => (of_decide_eq_true h)) (fun h => (of_decide_eq_true h)))
      clear hc
      refine wp_seq ?_
      refine wp_region_lit ?_
      refine sq (opk_val hA72 rfl (r_assign rfl) fun a75 hA75 _ => ?_)
      refine sq_end ?_
      have hA76 := hA75.keep [(2, .bool false)] ⟨rfl, trivial⟩
      refine then_normal ?_
      refine wp_ret ?_
      refine then_ret ?_
      have ht77 := ht73 w3 B_2 hN8  hC9
      exact res_all (vs := [.bool false]) rfl hA76 ⟨res_of_tmp hA76 rfl, trivial⟩ ht77
    · have ht74 := ht17.2 ⟨(of_decide_eq_false (b_or_f hc).1), (of_decide_eq_false (b_or_f hc).2)⟩
      clear hc
      refine wp_skip ?_
      refine then_normal ?_
      refine wp_seq ?_
      refine wp_seq ?_
      refine wp_region_lit ?_
      refine sq (opk_val hA72 rfl (r_fieldAddr (hA72.get rfl) Tryz.underlying39 rfl ti_3 (by decide)) fun a78 hA78 _ => ?_)
      refine sq (opk_val hA78 rfl (r_load1 Tryz.underlying3 rfl (hA78.get rfl) (hB7.cell 0 _ rfl)) fun a79 hA79 _ => ?_)
      refine sq_end ?_
      have hA80 := hA79.keep [(1, .pointer (some (⟨B_2, 0, none⟩ : Addr))), (34, .int .i64 t_1_Kind)] ⟨rfl, rfl, trivial⟩
      refine then_normal ?_
      refine wp_block ?_
      refine wp_seq ?_
      refine wp_region_lit ?_
      refine sq (opk_val hA80 rfl (r_eql (hA80.get rfl) rfl) fun a81 hA81 _ => ?_)
      refine sq (opk_val hA81 rfl (r_assign (hA81.get rfl)) fun a82 hA82 _ => ?_)
      refine sq_end ?_
      have hA83 := hA82.keep [(1, .pointer (some (⟨B_2, 0, none⟩ : Addr))), (34, .int .i64 t_1_Kind), (35, .bool (decide (t_1_Kind = 3)))] ⟨rfl, rfl, rfl, trivial⟩
      refine then_normal ?_
      refine wp_cond_split (hA83.get rfl) (fun hc => ?_) (fun hc => ?_)
      · have ht84 := ht74.1 (of_decide_eq_true hc)
        clear hc
        refine wp_seq ?_
        refine wp_region_lit ?_
        refine sq (opk_val hA83 rfl (r_fieldAddr (hA83.get rfl) Tryz.underlying39 rfl ti_9 (by decide)) fun a86 hA86 _ => ?_)
        refine sq (opk_val hA86 rfl (r_load1 Tryz.underlying9 rfl (hA86.get rfl) (hB7.cell 1 _ rfl)) fun a87 hA87 _ => ?_)
        refine sq (opk_val hA87 rfl (r_seql (hA87.get rfl) rfl) fun a88 hA88 _ => ?_)
        refine sq (opk_val hA88 rfl (r_move (hA88.get rfl)) fun a89 hA89 _ => ?_)
        refine sq (opk_gval hA89 rfl rfl (g := true) (e := (decide (t_1_Name = ([] : Str)))) rfl (fun hg => r_fieldAddr (hA89.get rfl) Tryz.underlying39 rfl ti_9 (by decide)) fun a90 hA90 _ => ?_)
        refine sq (opk_gval hA90 rfl rfl (g := true) (e := (decide (t_1_Name = ([] : Str)))) rfl (fun hg => r_load1 Tryz.underlying9 rfl (cv_get (hA90.get rfl) hg) (hB7.cell 2 _ rfl)) fun a91 hA91 _ => ?_)
        refine sq (opk_gval hA91 rfl rfl (g := true) (e := (decide (t_1_Name = ([] : Str)))) rfl (fun hg => r_sneq (cv_get (hA91.get rfl) hg) rfl) fun a92 hA92 _ => ?_)
        refine sq (opk_val hA92 rfl (r_pick_and (g := (true && ((decide (t_1_Name = ([] : Str))) == true))) (hA92.get rfl) (hA92.get rfl) (fun he => g_mkt rfl he)) fun a93 hA93 _ => ?_)
        refine sq (opk_val hA93 rfl (r_move (hA93.get rfl)) fun a94 hA94 _ => ?_)
        refine sq (opk_gval hA94 rfl rfl (g := true) (e := ((decide (t_1_Name = ([] : Str))) && (decide (t_1_Text ≠ ([] : Str))))) rfl (fun hg => r_fieldAddr (hA94.get rfl) Tryz.underlying39 rfl ti_9 (by decide)) fun a95 hA95 _ => ?_)
        refine sq (opk_gval hA95 rfl rfl (g := true) (e := ((decide (t_1_Name = ([] : Str))) && (decide (t_1_Text ≠ ([] : Str))))) rfl (fun hg => r_load1 Tryz.underlying9 rfl (cv_get (hA95.get rfl) hg) (hB7.cell 2 _ rfl)) fun a96 hA96 _ => ?_)
        refine sq (opk_gval hA96 rfl rfl (g := true) (e := ((decide (t_1_Name = ([] : Str))) && (decide (t_1_Text ≠ ([] : Str))))) rfl (fun hg => r_slen (cv_get (hA96.get rfl) hg) Tryz.underlying9) fun a97 hA97 _ => ?_)
        refine sq (opk_gval hA97 rfl rfl (g := true) (e := ((decide (t_1_Name = ([] : Str))) && (decide (t_1_Text ≠ ([] : Str))))) rfl (fun hg => r_leq (cv_get (hA97.get rfl) hg) rfl) fun a98 hA98 _ => ?_)
        refine sq (opk_val hA98 rfl (r_pick_and (g := (true && (((decide (t_1_Name = ([] : Str))) && (decide (t_1_Text ≠ ([] : Str)))) == true))) (hA98.get rfl) (hA98.get rfl) (fun he => g_mkt rfl he)) fun a99 hA99 _ => ?_)
        refine sq (opk_val hA99 rfl (r_assign (hA99.get rfl)) fun a100 hA100 _ => ?_)
        refine sq_end ?_
        have hA101 := hA100.keep [(2, .bool (((decide (t_1_Name = ([] : Str))) && (decide (t_1_Text ≠ ([] : Str)))) && (decide ((t_1_Text.length : Int) ≤ 4096))))] ⟨rfl, trivial⟩
        refine then_normal ?_
        refine wp_ret ?_
        refine block_ret ?_
        refine then_ret ?_
        have ht102 := ht84 w3 B_2 hN8  hC9
        exact res_all (vs := [.bool (((decide (t_1_Name = ([] : Str))) && (decide (t_1_Text ≠ ([] : Str)))) && (decide ((t_1_Text.length : Int) ≤ 4096)))]) rfl hA101 ⟨res_of_tmp hA101 rfl, trivial⟩ ht102
      · have ht85 := ht74.2 (of_decide_eq_false hc)
        clear hc
        refine wp_seq ?_
        refine wp_region_lit ?_
        refine sq (opk_val hA83 rfl (r_eql (hA83.get rfl) rfl) fun a103 hA103 _ => ?_)
        refine sq (opk_val hA103 rfl (r_assign (hA103.get rfl)) fun a104 hA104 _ => ?_)
        refine sq_end ?_
        have hA105 := hA104.keep [(1, .pointer (some (⟨B_2, 0, none⟩ : Addr))), (34, .int .i64 t_1_Kind), (51, .bool (decide (t_1_Kind = 4)))] ⟨rfl, rfl, rfl, trivial⟩
        refine then_normal ?_
        refine wp_cond_split (hA105.get rfl) (fun hc => ?_) (fun hc => ?_)
        · have ht106 := ht85.1 (of_decide_eq_true hc)
          clear hc
          refine wp_seq ?_
          refine wp_region_lit ?_
          refine sq (opk_val hA105 rfl (r_fieldAddr (hA105.get rfl) Tryz.underlying39 rfl ti_9 (by decide)) fun a108 hA108 _ => ?_)
          refine sq (opk_val hA108 rfl (r_load1 Tryz.underlying9 rfl (hA108.get rfl) (hB7.cell 1 _ rfl)) fun a109 hA109 _ => ?_)
          refine sq (opk_val hA109 rfl (r_seql (hA109.get rfl) rfl) fun a110 hA110 _ => ?_)
          refine sq (opk_val hA110 rfl (r_move (hA110.get rfl)) fun a111 hA111 _ => ?_)
          refine sq (opk_gval hA111 rfl rfl (g := true) (e := (decide (t_1_Name = ([] : Str)))) rfl (fun hg => r_fieldAddr (hA111.get rfl) Tryz.underlying39 rfl ti_9 (by decide)) fun a112 hA112 _ => ?_)
          refine sq (opk_gval hA112 rfl rfl (g := true) (e := (decide (t_1_Name = ([] : Str)))) rfl (fun hg => r_load1 Tryz.underlying9 rfl (cv_get (hA112.get rfl) hg) (hB7.cell 2 _ rfl)) fun a113 hA113 _ => ?_)
          refine sq (opk_gval hA113 rfl rfl (g := true) (e := (decide (t_1_Name = ([] : Str)))) rfl (fun hg => r_slen (cv_get (hA113.get rfl) hg) Tryz.underlying9) fun a114 hA114 _ => ?_)
          refine sq (opk_gval hA114 rfl rfl (g := true) (e := (decide (t_1_Name = ([] : Str)))) rfl (fun hg => r_leq (cv_get (hA114.get rfl) hg) rfl) fun a115 hA115 _ => ?_)
          refine sq (opk_val hA115 rfl (r_pick_and (g := (true && ((decide (t_1_Name = ([] : Str))) == true))) (hA115.get rfl) (hA115.get rfl) (fun he => g_mkt rfl he)) fun a116 hA116 _ => ?_)
          refine sq (opk_val hA116 rfl (r_assign (hA116.get rfl)) fun a117 hA117 _ => ?_)
          refine sq_end ?_
          have hA118 := hA117.keep [(2, .bool ((decide (t_1_Name = ([] : Str))) && (decide ((t_1_Text.length : Int) ≤ 4096))))] ⟨rfl, trivial⟩
          refine then_normal ?_
          refine wp_ret ?_
          refine block_ret ?_
          refine then_ret ?_
          have ht119 := ht106 w3 B_2 hN8  hC9
          exact res_all (vs := [.bool ((decide (t_1_Name = ([] : Str))) && (decide ((t_1_Text.length : Int) ≤ 4096)))]) rfl hA118 ⟨res_of_tmp hA118 rfl, trivial⟩ ht119
        · have ht107 := ht85.2 (of_decide_eq_false hc)
          clear hc
          refine wp_seq ?_
          refine wp_region_lit ?_
          refine sq (opk_val hA105 rfl (r_eql (hA105.get rfl) rfl) fun a120 hA120 _ => ?_)
          refine sq (opk_val hA120 rfl (r_assign (hA120.get rfl)) fun a121 hA121 _ => ?_)
          refine sq_end ?_
          have hA122 := hA121.keep [(1, .pointer (some (⟨B_2, 0, none⟩ : Addr))), (62, .bool (decide (t_1_Kind = 5)))] ⟨rfl, rfl, trivial⟩
          refine then_normal ?_
          refine wp_cond_split (hA122.get rfl) (fun hc => ?_) (fun hc => ?_)
          · have ht123 := ht107.1 (of_decide_eq_true hc)
            clear hc
            refine wp_seq ?_
            refine wp_region_lit ?_
            refine sq (opk_val hA122 rfl (r_fieldAddr (hA122.get rfl) Tryz.underlying39 rfl ti_9 (by decide)) fun a125 hA125 _ => ?_)
            refine sq (opk_val hA125 rfl (r_load1 Tryz.underlying9 rfl (hA125.get rfl) (hB7.cell 2 _ rfl)) fun a126 hA126 _ => ?_)
            refine sq (opk_val hA126 rfl (r_seql (hA126.get rfl) rfl) fun a127 hA127 _ => ?_)
            refine sq (opk_val hA127 rfl (r_move (hA127.get rfl)) fun a128 hA128 _ => ?_)
            refine sq (opk_gval hA128 rfl rfl (g := true) (e := (decide (t_1_Text = ([] : Str)))) rfl (fun hg => r_fieldAddr (hA128.get rfl) Tryz.underlying39 rfl ti_9 (by decide)) fun a129 hA129 _ => ?_)
            refine sq (opk_gval hA129 rfl rfl (g := true) (e := (decide (t_1_Text = ([] : Str)))) rfl (fun hg => r_load1 Tryz.underlying9 rfl (cv_get (hA129.get rfl) hg) (hB7.cell 1 _ rfl)) fun a130 hA130 _ => ?_)
            refine sq (opk_gval hA130 rfl rfl (g := true) (e := (decide (t_1_Text = ([] : Str)))) rfl (fun hg => r_slen (cv_get (hA130.get rfl) hg) Tryz.underlying9) fun a131 hA131 _ => ?_)
            refine sq (opk_gval hA131 rfl rfl (g := true) (e := (decide (t_1_Text = ([] : Str)))) rfl (fun hg => r_leq (cv_get (hA131.get rfl) hg) rfl) fun a132 hA132 _ => ?_)
            refine sq (opk_val hA132 rfl (r_pick_and (g := (true && ((decide (t_1_Text = ([] : Str))) == true))) (hA132.get rfl) (hA132.get rfl) (fun he => g_mkt rfl he)) fun a133 hA133 _ => ?_)
            refine sq (opk_val hA133 rfl (r_assign (hA133.get rfl)) fun a134 hA134 _ => ?_)
            refine sq_end ?_
            have hA135 := hA134.keep [(2, .bool ((decide (t_1_Text = ([] : Str))) && (decide ((t_1_Name.length : Int) ≤ 32))))] ⟨rfl, trivial⟩
            refine then_normal ?_
            refine wp_ret ?_
            refine block_ret ?_
            refine then_ret ?_
            have ht136 := ht123 w3 B_2 hN8  hC9
            exact res_all (vs := [.bool ((decide (t_1_Text = ([] : Str))) && (decide ((t_1_Name.length : Int) ≤ 32)))]) rfl hA135 ⟨res_of_tmp hA135 rfl, trivial⟩ ht136
          · have ht124 := ht107.2 (of_decide_eq_false hc)
            clear hc
            refine wp_skip ?_
            refine block_normal ?_
            refine then_normal ?_
            refine wp_seq ?_
            refine wp_region_lit ?_
            refine sq (opk_val hA122 rfl (r_assign rfl) fun a137 hA137 _ => ?_)
            refine sq_end ?_
            have hA138 := hA137.keep [(2, .bool false)] ⟨rfl, trivial⟩
            refine then_normal ?_
            refine wp_ret ?_
            have ht139 := ht124 w3 B_2 hN8  hC9
            exact res_all (vs := [.bool false]) rfl hA138 ⟨res_of_tmp hA138 rfl, trivial⟩ ht139

/-- The condition of topiary/tree.Name. -/
def tree_Name.vc (s_1 : Str) (R : Value → World → Prop) (w : World) : Prop :=
(((s_1 = ([] : Str)) ∨ (32 < (s_1.length : Int))) →
R (.bool false) w) ∧
(((¬ (s_1 = ([] : Str))) ∧ (¬ (32 < (s_1.length : Int)))) →
∃ (J_22 : Int → World → Prop) (mu_23 : Int → World → Nat),
J_22 0 w ∧
(∀ (x_20 : Int) (w21 : World), J_22 x_20 w21 →
((x_20 < (s_1.length : Int)) →
((0 : Int) ≤ x_20 ∧ x_20 < (s_1.length : Int)) ∧
(((((s_1.getD x_20.toNat 0).toNat : Int) = 9) ∨ ((((s_1.getD x_20.toNat 0).toNat : Int) = 10) ∨ ((((s_1.getD x_20.toNat 0).toNat : Int) = 12) ∨ ((((s_1.getD x_20.toNat 0).toNat : Int) = 32) ∨ ((((s_1.getD x_20.toNat 0).toNat : Int) = 0) ∨ ((((s_1.getD x_20.toNat 0).toNat : Int) = 34) ∨ ((((s_1.getD x_20.toNat 0).toNat : Int) = 39) ∨ ((((s_1.getD x_20.toNat 0).toNat : Int) = 62) ∨ ((((s_1.getD x_20.toNat 0).toNat : Int) = 47) ∨ ((((s_1.getD x_20.toNat 0).toNat : Int) = 61) ∨ (((s_1.getD x_20.toNat 0).toNat : Int) = 60))))))))))) →
R (.bool false) w21) ∧
(((¬ (((s_1.getD x_20.toNat 0).toNat : Int) = 9)) ∧ ((¬ (((s_1.getD x_20.toNat 0).toNat : Int) = 10)) ∧ ((¬ (((s_1.getD x_20.toNat 0).toNat : Int) = 12)) ∧ ((¬ (((s_1.getD x_20.toNat 0).toNat : Int) = 32)) ∧ ((¬ (((s_1.getD x_20.toNat 0).toNat : Int) = 0)) ∧ ((¬ (((s_1.getD x_20.toNat 0).toNat : Int) = 34)) ∧ ((¬ (((s_1.getD x_20.toNat 0).toNat : Int) = 39)) ∧ ((¬ (((s_1.getD x_20.toNat 0).toNat : Int) = 62)) ∧ ((¬ (((s_1.getD x_20.toNat 0).toNat : Int) = 47)) ∧ ((¬ (((s_1.getD x_20.toNat 0).toNat : Int) = 61)) ∧ (¬ (((s_1.getD x_20.toNat 0).toNat : Int) = 60)))))))))))) →
(((65 ≤ ((s_1.getD x_20.toNat 0).toNat : Int)) ∧ (((s_1.getD x_20.toNat 0).toNat : Int) ≤ 90)) →
R (.bool false) w21) ∧
(((¬ (65 ≤ ((s_1.getD x_20.toNat 0).toNat : Int))) ∨ (¬ (((s_1.getD x_20.toNat 0).toNat : Int) ≤ 90))) →
(I64 (x_20 + 1)) ∧
J_22 (x_20 + 1) w21 ∧ mu_23 (x_20 + 1) w21 < mu_23 x_20 w21))) ∧
((¬ (x_20 < (s_1.length : Int))) →
R (.bool true) w21)))
set_option maxHeartbeats 1000000 in
set_option maxRecDepth 10000 in
theorem tree_Name.ok (s_1 : Str) {R : Value → World → Prop} {w : World} (ht0 : tree_Name.vc s_1 R w) : Calls Tryz.prog 149 #[.string (Bs s_1)] w (Ret R) := by
  refine enter [.string (Bs s_1)] Tryz.func149 rfl Tryz.ntmps149 rfl ?_
  intro a0 hA0
  unfold tree_Name.vc at ht0
  refine wp_seq ?_
  refine wp_region_lit ?_
  refine sq (opk_val hA0 rfl (r_assign rfl) fun a2 hA2 _ => ?_)
  refine sq_end ?_
  have hA3 := hA2.keep [(0, .string (Bs s_1))] ⟨rfl, trivial⟩
  refine then_normal ?_
  refine wp_seq ?_
  refine wp_seq ?_
  refine wp_region_lit ?_
  refine sq (opk_val hA3 rfl (r_move (hA3.get rfl)) fun a4 hA4 _ => ?_)
  refine sq (opk_val hA4 rfl (r_seql (hA4.get rfl) rfl) fun a5 hA5 _ => ?_)
  refine sq (opk_val hA5 rfl (r_move (hA5.get rfl)) fun a6 hA6 _ => ?_)
  refine sq (opk_gval hA6 rfl rfl (g := true) (e := (decide (s_1 = ([] : Str)))) rfl (fun hg => r_move (hA6.get rfl)) fun a7 hA7 _ => ?_)
  refine sq (opk_gval hA7 rfl rfl (g := true) (e := (decide (s_1 = ([] : Str)))) rfl (fun hg => r_slen (cv_get (hA7.get rfl) hg) Tryz.underlying9) fun a8 hA8 _ => ?_)
  refine sq (opk_gval hA8 rfl rfl (g := true) (e := (decide (s_1 = ([] : Str)))) rfl (fun hg => r_gtr (cv_get (hA8.get rfl) hg) rfl) fun a9 hA9 _ => ?_)
  refine sq (opk_val hA9 rfl (r_pick_or (g := (true && ((decide (s_1 = ([] : Str))) == false))) (hA9.get rfl) (hA9.get rfl) (fun he => g_mkf rfl he)) fun a10 hA10 _ => ?_)
  refine sq_end ?_
  have hA11 := hA10.keep [(0, .string (Bs s_1)), (11, .bool ((decide (s_1 = ([] : Str))) || (decide (32 < (s_1.length : Int)))))] ⟨rfl, rfl, trivial⟩
  refine then_normal ?_
  refine wp_cond_split (hA11.get rfl) (fun hc => ?_) (fun hc => ?_)
  · have ht12 := ht0.1 ((b_or_t hc).imp (fun h => (of_decide_eq_true h)) (fun h => (of_decide_eq_true h)))
    clear hc
    refine wp_seq ?_
    refine wp_region_lit ?_
    refine sq (opk_val hA11 rfl (r_assign rfl) fun a14 hA14 _ => ?_)
    refine sq_end ?_
    have hA15 := hA14.keep [(2, .bool false)] ⟨rfl, trivial⟩
    refine then_normal ?_
    refine wp_ret ?_
    refine then_ret ?_
    exact res_all (vs := [.bool false]) rfl hA15 ⟨res_of_tmp hA15 rfl, trivial⟩ ht12
  · have ht13 := ht0.2 ⟨(of_decide_eq_false (b_or_f hc).1), (of_decide_eq_false (b_or_f hc).2)⟩
    clear hc
    refine wp_skip ?_
    refine then_normal ?_
    refine wp_seq ?_
    refine wp_seq ?_
    refine wp_region_lit ?_
    refine sq (opk_val hA11 rfl (r_move (hA11.get rfl)) fun a16 hA16 _ => ?_)
    refine sq (opk_val hA16 rfl (r_slen (hA16.get rfl) Tryz.underlying9) fun a17 hA17 _ => ?_)
    refine sq (opk_val hA17 rfl (r_move rfl) fun a18 hA18 _ => ?_)
    refine sq_end ?_
    have hA19 := hA18.keep [(0, .string (Bs s_1)), (13, .int .i64 (s_1.length : Int)), (14, .int .i64 0)] ⟨rfl, rfl, rfl, trivial⟩
    refine then_normal ?_
    refine wp_block ?_
    obtain ⟨J_22, mu_23, h09273, ht9272⟩ := ht13
    refine wp_loop_st (σ := Int × World) (fun s a w => Ag 40 a [(0, .string (Bs s_1)), (13, .int .i64 (s_1.length : Int)), (14, .int .i64 s.1)] ∧ w = s.2 ∧ J_22 s.1 s.2) (fun s => mu_23 s.1 s.2) (0, w) ⟨hA19.keep [(0, .string (Bs s_1)), (13, .int .i64 (s_1.length : Int)), (14, .int .i64 0)] ⟨rfl, rfl, rfl, trivial⟩, rfl, h09273⟩ ?_
    rintro ⟨x_20, w21⟩ a9271 w_ ⟨hA9271, hw_, hJ9275⟩
    have hw_ : w21 = w_ := hw_.symm
    subst hw_
    have ht9274 := ht9272 x_20 _ hJ9275
    refine wp_seq ?_
    refine wp_region_lit ?_
    refine sq (opk_val hA9271 rfl (r_lss (hA9271.get rfl) (hA9271.get rfl)) fun a9276 hA9276 _ => ?_)
    refine sq_end ?_
    have hA9277 := hA9276.keep [(0, .string (Bs s_1)), (13, .int .i64 (s_1.length : Int)), (14, .int .i64 x_20), (15, .bool (decide (x_20 < (s_1.length : Int))))] ⟨rfl, rfl, rfl, rfl, trivial⟩
    refine then_normal ?_
    refine wp_seq ?_
    refine wp_cond_split (hA9277.get rfl) (fun hc => ?_) (fun hc => ?_)
    · have ht9278 := ht9274.1 (of_decide_eq_true hc)
      clear hc
      refine wp_skip ?_
      refine then_normal ?_
      refine wp_seq ?_
      refine wp_block ?_
      refine wp_seq ?_
      refine wp_region_lit ?_
      refine sq (opk_val hA9277 rfl (r_move (hA9277.get rfl)) fun a9280 hA9280 _ => ?_)
      refine sq (opk_val hA9280 rfl (r_assign (hA9280.get rfl)) fun a9281 hA9281 _ => ?_)
      refine sq_end ?_
      have hA9282 := hA9281.keep [(0, .string (Bs s_1)), (3, .int .i64 x_20), (13, .int .i64 (s_1.length : Int)), (14, .int .i64 x_20)] ⟨rfl, rfl, rfl, rfl, trivial⟩
      refine then_normal ?_
      refine wp_seq ?_
      refine wp_region_lit ?_
      refine sq (opk_val hA9282 rfl (r_move (hA9282.get rfl)) fun a9283 hA9283 _ => ?_)
      refine sq (opk_val hA9283 rfl (r_move (hA9283.get rfl)) fun a9284 hA9284 _ => ?_)
      obtain ⟨hS9286, ht9287⟩ := ht9278
      refine sq (opk_val hA9284 rfl (r_sindex (hA9284.get rfl) (hA9284.get rfl) Tryz.underlying9 hS9286) fun a9285 hA9285 _ => ?_)
      refine sq (opk_val hA9285 rfl (r_assign (hA9285.get rfl)) fun a9288 hA9288 _ => ?_)
      refine sq_end ?_
      have hA9289 := hA9288.keep [(0, .string (Bs s_1)), (4, .int .u8 ((s_1.getD x_20.toNat 0).toNat : Int)), (13, .int .i64 (s_1.length : Int)), (14, .int .i64 x_20)] ⟨rfl, rfl, rfl, rfl, trivial⟩
      refine then_normal ?_
      refine wp_seq ?_
      refine wp_region_lit ?_
      refine sq (opk_val hA9289 rfl (r_move (hA9289.get rfl)) fun a9290 hA9290 _ => ?_)
      refine sq_end ?_
      have hA9291 := hA9290.keep [(0, .string (Bs s_1)), (4, .int .u8 ((s_1.getD x_20.toNat 0).toNat : Int)), (13, .int .i64 (s_1.length : Int)), (14, .int .i64 x_20), (20, .int .u8 ((s_1.getD x_20.toNat 0).toNat : Int))] ⟨rfl, rfl, rfl, rfl, rfl, trivial⟩
      refine then_normal ?_
      refine wp_block ?_
      refine wp_seq ?_
      refine wp_seq ?_
      refine wp_region_lit ?_
      refine sq (opk_val hA9291 rfl (r_eql (hA9291.get rfl) rfl) fun a9292 hA9292 _ => ?_)
      refine sq (opk_val hA9292 rfl (r_assign (hA9292.get rfl)) fun a9293 hA9293 _ => ?_)
      refine sq_end ?_
      have hA9294 := hA9293.keep [(0, .string (Bs s_1)), (4, .int .u8 ((s_1.getD x_20.toNat 0).toNat : Int)), (13, .int .i64 (s_1.length : Int)), (14, .int .i64 x_20), (20, .int .u8 ((s_1.getD x_20.toNat 0).toNat : Int)), (27, .bool (decide (((s_1.getD x_20.toNat 0).toNat : Int) = 9)))] ⟨rfl, rfl, rfl, rfl, rfl, rfl, trivial⟩
      refine then_normal ?_
      refine wp_meet (fun a wq => Ag 40 a [(0, .string (Bs s_1)), (4, .int .u8 ((s_1.getD x_20.toNat 0).toNat : Int)), (13, .int .i64 (s_1.length : Int)), (14, .int .i64 x_20), (27, .bool ((decide (((s_1.getD x_20.toNat 0).toNat : Int) = 9)) || ((decide (((s_1.getD x_20.toNat 0).toNat : Int) = 10)) || ((decide (((s_1.getD x_20.toNat 0).toNat : Int) = 12)) || ((decide (((s_1.getD x_20.toNat 0).toNat : Int) = 32)) || ((decide (((s_1.getD x_20.toNat 0).toNat : Int) = 0)) || ((decide (((s_1.getD x_20.toNat 0).toNat : Int) = 34)) || ((decide (((s_1.getD x_20.toNat 0).toNat : Int) = 39)) || ((decide (((s_1.getD x_20.toNat 0).toNat : Int) = 62)) || ((decide (((s_1.getD x_20.toNat 0).toNat : Int) = 47)) || ((decide (((s_1.getD x_20.toNat 0).toNat : Int) = 61)) || (decide (((s_1.getD x_20.toNat 0).toNat : Int) = 60)))))))))))))] ∧ wq = w21) ?_ ?_
      · refine wp_cond_split (hA9294.get rfl) (fun hc => ?_) (fun hc => ?_)
        · refine wp_skip ?_
          have hA13897 := hA9294.say (t := 27) rfl (.bool ((decide (((s_1.getD x_20.toNat 0).toNat : Int) = 9)) || ((decide (((s_1.getD x_20.toNat 0).toNat : Int) = 10)) || ((decide (((s_1.getD x_20.toNat 0).toNat : Int) = 12)) || ((decide (((s_1.getD x_20.toNat 0).toNat : Int) = 32)) || ((decide (((s_1.getD x_20.toNat 0).toNat : Int) = 0)) || ((decide (((s_1.getD x_20.toNat 0).toNat : Int) = 34)) || ((decide (((s_1.getD x_20.toNat 0).toNat : Int) = 39)) || ((decide (((s_1.getD x_20.toNat 0).toNat : Int) = 62)) || ((decide (((s_1.getD x_20.toNat 0).toNat : Int) = 47)) || ((decide (((s_1.getD x_20.toNat 0).toNat : Int) = 61)) || (decide (((s_1.getD x_20.toNat 0).toNat : Int) = 60))))))))))))) (by rw [hc]; rfl)
          exact then_normal ⟨hA13897.keep [(0, .string (Bs s_1)), (4, .int .u8 ((s_1.getD x_20.toNat 0).toNat : Int)), (13, .int .i64 (s_1.length : Int)), (14, .int .i64 x_20), (27, .bool ((decide (((s_1.getD x_20.toNat 0).toNat : Int) = 9)) || ((decide (((s_1.getD x_20.toNat 0).toNat : Int) = 10)) || ((decide (((s_1.getD x_20.toNat 0).toNat : Int) = 12)) || ((decide (((s_1.getD x_20.toNat 0).toNat : Int) = 32)) || ((decide (((s_1.getD x_20.toNat 0).toNat : Int) = 0)) || ((decide (((s_1.getD x_20.toNat 0).toNat : Int) = 34)) || ((decide (((s_1.getD x_20.toNat 0).toNat : Int) = 39)) || ((decide (((s_1.getD x_20.toNat 0).toNat : Int) = 62)) || ((decide (((s_1.getD x_20.toNat 0).toNat : Int) = 47)) || ((decide (((s_1.getD x_20.toNat 0).toNat : Int) = 61)) || (decide (((s_1.getD x_20.toNat 0).toNat : Int) = 60)))))))))))))] ⟨rfl, rfl, rfl, rfl, rfl, trivial⟩, rfl⟩
        · refine wp_seq ?_
          refine wp_region_lit ?_
          refine sq (opk_val hA9294 rfl (r_eql (hA9294.get rfl) rfl) fun a13898 hA13898 _ => ?_)
          refine sq (opk_val hA13898 rfl (r_assign (hA13898.get rfl)) fun a13899 hA13899 _ => ?_)
          refine sq_end ?_
          have hA13900 := hA13899.keep [(0, .string (Bs s_1)), (4, .int .u8 ((s_1.getD x_20.toNat 0).toNat : Int)), (13, .int .i64 (s_1.length : Int)), (14, .int .i64 x_20), (20, .int .u8 ((s_1.getD x_20.toNat 0).toNat : Int)), (27, .bool (decide (((s_1.getD x_20.toNat 0).toNat : Int) = 10)))] ⟨rfl, rfl, rfl, rfl, rfl, rfl, trivial⟩
          refine then_normal ?_
          refine wp_meet (fun a wq => Ag 40 a [(0, .string (Bs s_1)), (4, .int .u8 ((s_1.getD x_20.toNat 0).toNat : Int)), (13, .int .i64 (s_1.length : Int)), (14, .int .i64 x_20), (27, .bool ((decide (((s_1.getD x_20.toNat 0).toNat : Int) = 10)) || ((decide (((s_1.getD x_20.toNat 0).toNat : Int) = 12)) || ((decide (((s_1.getD x_20.toNat 0).toNat : Int) = 32)) || ((decide (((s_1.getD x_20.toNat 0).toNat : Int) = 0)) || ((decide (((s_1.getD x_20.toNat 0).toNat : Int) = 34)) || ((decide (((s_1.getD x_20.toNat 0).toNat : Int) = 39)) || ((decide (((s_1.getD x_20.toNat 0).toNat : Int) = 62)) || ((decide (((s_1.getD x_20.toNat 0).toNat : Int) = 47)) || ((decide (((s_1.getD x_20.toNat 0).toNat : Int) = 61)) || (decide (((s_1.getD x_20.toNat 0).toNat : Int) = 60))))))))))))] ∧ wq = w21) ?_ ?_
          · refine wp_cond_split (hA13900.get rfl) (fun hc => ?_) (fun hc => ?_)
            · refine wp_skip ?_
              have hA16199 := hA13900.say (t := 27) rfl (.bool ((decide (((s_1.getD x_20.toNat 0).toNat : Int) = 10)) || ((decide (((s_1.getD x_20.toNat 0).toNat : Int) = 12)) || ((decide (((s_1.getD x_20.toNat 0).toNat : Int) = 32)) || ((decide (((s_1.getD x_20.toNat 0).toNat : Int) = 0)) || ((decide (((s_1.getD x_20.toNat 0).toNat : Int) = 34)) || ((decide (((s_1.getD x_20.toNat 0).toNat : Int) = 39)) || ((decide (((s_1.getD x_20.toNat 0).toNat : Int) = 62)) || ((decide (((s_1.getD x_20.toNat 0).toNat : Int) = 47)) || ((decide (((s_1.getD x_20.toNat 0).toNat : Int) = 61)) || (decide (((s_1.getD x_20.toNat 0).toNat : Int) = 60)))))))))))) (by rw [hc]; rfl)
              exact then_normal ⟨hA16199.keep [(0, .string (Bs s_1)), (4, .int .u8 ((s_1.getD x_20.toNat 0).toNat : Int)), (13, .int .i64 (s_1.length : Int)), (14, .int .i64 x_20), (27, .bool ((decide (((s_1.getD x_20.toNat 0).toNat : Int) = 10)) || ((decide (((s_1.getD x_20.toNat 0).toNat : Int) = 12)) || ((decide (((s_1.getD x_20.toNat 0).toNat : Int) = 32)) || ((decide (((s_1.getD x_20.toNat 0).toNat : Int) = 0)) || ((decide (((s_1.getD x_20.toNat 0).toNat : Int) = 34)) || ((decide (((s_1.getD x_20.toNat 0).toNat : Int) = 39)) || ((decide (((s_1.getD x_20.toNat 0).toNat : Int) = 62)) || ((decide (((s_1.getD x_20.toNat 0).toNat : Int) = 47)) || ((decide (((s_1.getD x_20.toNat 0).toNat : Int) = 61)) || (decide (((s_1.getD x_20.toNat 0).toNat : Int) = 60))))))))))))] ⟨rfl, rfl, rfl, rfl, rfl, trivial⟩, rfl⟩
            · refine wp_seq ?_
              refine wp_region_lit ?_
              refine sq (opk_val hA13900 rfl (r_eql (hA13900.get rfl) rfl) fun a16200 hA16200 _ => ?_)
              refine sq (opk_val hA16200 rfl (r_assign (hA16200.get rfl)) fun a16201 hA16201 _ => ?_)
              refine sq_end ?_
              have hA16202 := hA16201.keep [(0, .string (Bs s_1)), (4, .int .u8 ((s_1.getD x_20.toNat 0).toNat : Int)), (13, .int .i64 (s_1.length : Int)), (14, .int .i64 x_20), (20, .int .u8 ((s_1.getD x_20.toNat 0).toNat : Int)), (27, .bool (decide (((s_1.getD x_20.toNat 0).toNat : Int) = 12)))] ⟨rfl, rfl, rfl, rfl, rfl, rfl, trivial⟩
              refine then_normal ?_
              refine wp_meet (fun a wq => Ag 40 a [(0, .string (Bs s_1)), (4, .int .u8 ((s_1.getD x_20.toNat 0).toNat : Int)), (13, .int .i64 (s_1.length : Int)), (14, .int .i64 x_20), (27, .bool ((decide (((s_1.getD x_20.toNat 0).toNat : Int) = 12)) || ((decide (((s_1.getD x_20.toNat 0).toNat : Int) = 32)) || ((decide (((s_1.getD x_20.toNat 0).toNat : Int) = 0)) || ((decide (((s_1.getD x_20.toNat 0).toNat : Int) = 34)) || ((decide (((s_1.getD x_20.toNat 0).toNat : Int) = 39)) || ((decide (((s_1.getD x_20.toNat 0).toNat : Int) = 62)) || ((decide (((s_1.getD x_20.toNat 0).toNat : Int) = 47)) || ((decide (((s_1.getD x_20.toNat 0).toNat : Int) = 61)) || (decide (((s_1.getD x_20.toNat 0).toNat : Int) = 60)))))))))))] ∧ wq = w21) ?_ ?_
              · refine wp_cond_split (hA16202.get rfl) (fun hc => ?_) (fun hc => ?_)
                · refine wp_skip ?_
                  have hA17349 := hA16202.say (t := 27) rfl (.bool ((decide (((s_1.getD x_20.toNat 0).toNat : Int) = 12)) || ((decide (((s_1.getD x_20.toNat 0).toNat : Int) = 32)) || ((decide (((s_1.getD x_20.toNat 0).toNat : Int) = 0)) || ((decide (((s_1.getD x_20.toNat 0).toNat : Int) = 34)) || ((decide (((s_1.getD x_20.toNat 0).toNat : Int) = 39)) || ((decide (((s_1.getD x_20.toNat 0).toNat : Int) = 62)) || ((decide (((s_1.getD x_20.toNat 0).toNat : Int) = 47)) || ((decide (((s_1.getD x_20.toNat 0).toNat : Int) = 61)) || (decide (((s_1.getD x_20.toNat 0).toNat : Int) = 60))))))))))) (by rw [hc]; rfl)
                  exact then_normal ⟨hA17349.keep [(0, .string (Bs s_1)), (4, .int .u8 ((s_1.getD x_20.toNat 0).toNat : Int)), (13, .int .i64 (s_1.length : Int)), (14, .int .i64 x_20), (27, .bool ((decide (((s_1.getD x_20.toNat 0).toNat : Int) = 12)) || ((decide (((s_1.getD x_20.toNat 0).toNat : Int) = 32)) || ((decide (((s_1.getD x_20.toNat 0).toNat : Int) = 0)) || ((decide (((s_1.getD x_20.toNat 0).toNat : Int) = 34)) || ((decide (((s_1.getD x_20.toNat 0).toNat : Int) = 39)) || ((decide (((s_1.getD x_20.toNat 0).toNat : Int) = 62)) || ((decide (((s_1.getD x_20.toNat 0).toNat : Int) = 47)) || ((decide (((s_1.getD x_20.toNat 0).toNat : Int) = 61)) || (decide (((s_1.getD x_20.toNat 0).toNat : Int) = 60)))))))))))] ⟨rfl, rfl, rfl, rfl, rfl, trivial⟩, rfl⟩
                · refine wp_seq ?_
                  refine wp_region_lit ?_
                  refine sq (opk_val hA16202 rfl (r_eql (hA16202.get rfl) rfl) fun a17350 hA17350 _ => ?_)
                  refine sq (opk_val hA17350 rfl (r_assign (hA17350.get rfl)) fun a17351 hA17351 _ => ?_)
                  refine sq_end ?_
                  have hA17352 := hA17351.keep [(0, .string (Bs s_1)), (4, .int .u8 ((s_1.getD x_20.toNat 0).toNat : Int)), (13, .int .i64 (s_1.length : Int)), (14, .int .i64 x_20), (20, .int .u8 ((s_1.getD x_20.toNat 0).toNat : Int)), (27, .bool (decide (((s_1.getD x_20.toNat 0).toNat : Int) = 32)))] ⟨rfl, rfl, rfl, rfl, rfl, rfl, trivial⟩
                  refine then_normal ?_
                  refine wp_meet (fun a wq => Ag 40 a [(0, .string (Bs s_1)), (4, .int .u8 ((s_1.getD x_20.toNat 0).toNat : Int)), (13, .int .i64 (s_1.length : Int)), (14, .int .i64 x_20), (27, .bool ((decide (((s_1.getD x_20.toNat 0).toNat : Int) = 32)) || ((decide (((s_1.getD x_20.toNat 0).toNat : Int) = 0)) || ((decide (((s_1.getD x_20.toNat 0).toNat : Int) = 34)) || ((decide (((s_1.getD x_20.toNat 0).toNat : Int) = 39)) || ((decide (((s_1.getD x_20.toNat 0).toNat : Int) = 62)) || ((decide (((s_1.getD x_20.toNat 0).toNat : Int) = 47)) || ((decide (((s_1.getD x_20.toNat 0).toNat : Int) = 61)) || (decide (((s_1.getD x_20.toNat 0).toNat : Int) = 60))))))))))] ∧ wq = w21) ?_ ?_
                  · refine wp_cond_split (hA17352.get rfl) (fun hc => ?_) (fun hc => ?_)
                    · refine wp_skip ?_
                      have hA17923 := hA17352.say (t := 27) rfl (.bool ((decide (((s_1.getD x_20.toNat 0).toNat : Int) = 32)) || ((decide (((s_1.getD x_20.toNat 0).toNat : Int) = 0)) || ((decide (((s_1.getD x_20.toNat 0).toNat : Int) = 34)) || ((decide (((s_1.getD x_20.toNat 0).toNat : Int) = 39)) || ((decide (((s_1.getD x_20.toNat 0).toNat : Int) = 62)) || ((decide (((s_1.getD x_20.toNat 0).toNat : Int) = 47)) || ((decide (((s_1.getD x_20.toNat 0).toNat : Int) = 61)) || (decide (((s_1.getD x_20.toNat 0).toNat : Int) = 60)))))))))) (by rw [hc]; rfl)
                      exact then_normal ⟨hA17923.keep [(0, .string (Bs s_1)), (4, .int .u8 ((s_1.getD x_20.toNat 0).toNat : Int)), (13, .int .i64 (s_1.length : Int)), (14, .int .i64 x_20), (27, .bool ((decide (((s_1.getD x_20.toNat 0).toNat : Int) = 32)) || ((decide (((s_1.getD x_20.toNat 0).toNat : Int) = 0)) || ((decide (((s_1.getD x_20.toNat 0).toNat : Int) = 34)) || ((decide (((s_1.getD x_20.toNat 0).toNat : Int) = 39)) || ((decide (((s_1.getD x_20.toNat 0).toNat : Int) = 62)) || ((decide (((s_1.getD x_20.toNat 0).toNat : Int) = 47)) || ((decide (((s_1.getD x_20.toNat 0).toNat : Int) = 61)) || (decide (((s_1.getD x_20.toNat 0).toNat : Int) = 60))))))))))] ⟨rfl, rfl, rfl, rfl, rfl, trivial⟩, rfl⟩
                    · refine wp_seq ?_
                      refine wp_region_lit ?_
                      refine sq (opk_val hA17352 rfl (r_eql (hA17352.get rfl) rfl) fun a17924 hA17924 _ => ?_)
                      refine sq (opk_val hA17924 rfl (r_assign (hA17924.get rfl)) fun a17925 hA17925 _ => ?_)
                      refine sq_end ?_
                      have hA17926 := hA17925.keep [(0, .string (Bs s_1)), (4, .int .u8 ((s_1.getD x_20.toNat 0).toNat : Int)), (13, .int .i64 (s_1.length : Int)), (14, .int .i64 x_20), (20, .int .u8 ((s_1.getD x_20.toNat 0).toNat : Int)), (27, .bool (decide (((s_1.getD x_20.toNat 0).toNat : Int) = 0)))] ⟨rfl, rfl, rfl, rfl, rfl, rfl, trivial⟩
                      refine then_normal ?_
                      refine wp_meet (fun a wq => Ag 40 a [(0, .string (Bs s_1)), (4, .int .u8 ((s_1.getD x_20.toNat 0).toNat : Int)), (13, .int .i64 (s_1.length : Int)), (14, .int .i64 x_20), (27, .bool ((decide (((s_1.getD x_20.toNat 0).toNat : Int) = 0)) || ((decide (((s_1.getD x_20.toNat 0).toNat : Int) = 34)) || ((decide (((s_1.getD x_20.toNat 0).toNat : Int) = 39)) || ((decide (((s_1.getD x_20.toNat 0).toNat : Int) = 62)) || ((decide (((s_1.getD x_20.toNat 0).toNat : Int) = 47)) || ((decide (((s_1.getD x_20.toNat 0).toNat : Int) = 61)) || (decide (((s_1.getD x_20.toNat 0).toNat : Int) = 60)))))))))] ∧ wq = w21) ?_ ?_
                      · refine wp_cond_split (hA17926.get rfl) (fun hc => ?_) (fun hc => ?_)
                        · refine wp_skip ?_
                          have hA18209 := hA17926.say (t := 27) rfl (.bool ((decide (((s_1.getD x_20.toNat 0).toNat : Int) = 0)) || ((decide (((s_1.getD x_20.toNat 0).toNat : Int) = 34)) || ((decide (((s_1.getD x_20.toNat 0).toNat : Int) = 39)) || ((decide (((s_1.getD x_20.toNat 0).toNat : Int) = 62)) || ((decide (((s_1.getD x_20.toNat 0).toNat : Int) = 47)) || ((decide (((s_1.getD x_20.toNat 0).toNat : Int) = 61)) || (decide (((s_1.getD x_20.toNat 0).toNat : Int) = 60))))))))) (by rw [hc]; rfl)
                          exact then_normal ⟨hA18209.keep [(0, .string (Bs s_1)), (4, .int .u8 ((s_1.getD x_20.toNat 0).toNat : Int)), (13, .int .i64 (s_1.length : Int)), (14, .int .i64 x_20), (27, .bool ((decide (((s_1.getD x_20.toNat 0).toNat : Int) = 0)) || ((decide (((s_1.getD x_20.toNat 0).toNat : Int) = 34)) || ((decide (((s_1.getD x_20.toNat 0).toNat : Int) = 39)) || ((decide (((s_1.getD x_20.toNat 0).toNat : Int) = 62)) || ((decide (((s_1.getD x_20.toNat 0).toNat : Int) = 47)) || ((decide (((s_1.getD x_20.toNat 0).toNat : Int) = 61)) || (decide (((s_1.getD x_20.toNat 0).toNat : Int) = 60)))))))))] ⟨rfl, rfl, rfl, rfl, rfl, trivial⟩, rfl⟩
                        · refine wp_seq ?_
                          refine wp_region_lit ?_
                          refine sq (opk_val hA17926 rfl (r_eql (hA17926.get rfl) rfl) fun a18210 hA18210 _ => ?_)
                          refine sq (opk_val hA18210 rfl (r_assign (hA18210.get rfl)) fun a18211 hA18211 _ => ?_)
                          refine sq_end ?_
                          have hA18212 := hA18211.keep [(0, .string (Bs s_1)), (4, .int .u8 ((s_1.getD x_20.toNat 0).toNat : Int)), (13, .int .i64 (s_1.length : Int)), (14, .int .i64 x_20), (20, .int .u8 ((s_1.getD x_20.toNat 0).toNat : Int)), (27, .bool (decide (((s_1.getD x_20.toNat 0).toNat : Int) = 34)))] ⟨rfl, rfl, rfl, rfl, rfl, rfl, trivial⟩
                          refine then_normal ?_
                          refine wp_meet (fun a wq => Ag 40 a [(0, .string (Bs s_1)), (4, .int .u8 ((s_1.getD x_20.toNat 0).toNat : Int)), (13, .int .i64 (s_1.length : Int)), (14, .int .i64 x_20), (27, .bool ((decide (((s_1.getD x_20.toNat 0).toNat : Int) = 34)) || ((decide (((s_1.getD x_20.toNat 0).toNat : Int) = 39)) || ((decide (((s_1.getD x_20.toNat 0).toNat : Int) = 62)) || ((decide (((s_1.getD x_20.toNat 0).toNat : Int) = 47)) || ((decide (((s_1.getD x_20.toNat 0).toNat : Int) = 61)) || (decide (((s_1.getD x_20.toNat 0).toNat : Int) = 60))))))))] ∧ wq = w21) ?_ ?_
                          · refine wp_cond_split (hA18212.get rfl) (fun hc => ?_) (fun hc => ?_)
                            · refine wp_skip ?_
                              have hA18351 := hA18212.say (t := 27) rfl (.bool ((decide (((s_1.getD x_20.toNat 0).toNat : Int) = 34)) || ((decide (((s_1.getD x_20.toNat 0).toNat : Int) = 39)) || ((decide (((s_1.getD x_20.toNat 0).toNat : Int) = 62)) || ((decide (((s_1.getD x_20.toNat 0).toNat : Int) = 47)) || ((decide (((s_1.getD x_20.toNat 0).toNat : Int) = 61)) || (decide (((s_1.getD x_20.toNat 0).toNat : Int) = 60)))))))) (by rw [hc]; rfl)
                              exact then_normal ⟨hA18351.keep [(0, .string (Bs s_1)), (4, .int .u8 ((s_1.getD x_20.toNat 0).toNat : Int)), (13, .int .i64 (s_1.length : Int)), (14, .int .i64 x_20), (27, .bool ((decide (((s_1.getD x_20.toNat 0).toNat : Int) = 34)) || ((decide (((s_1.getD x_20.toNat 0).toNat : Int) = 39)) || ((decide (((s_1.getD x_20.toNat 0).toNat : Int) = 62)) || ((decide (((s_1.getD x_20.toNat 0).toNat : Int) = 47)) || ((decide (((s_1.getD x_20.toNat 0).toNat : Int) = 61)) || (decide (((s_1.getD x_20.toNat 0).toNat : Int) = 60))))))))] ⟨rfl, rfl, rfl, rfl, rfl, trivial⟩, rfl⟩
                            · refine wp_seq ?_
                              refine wp_region_lit ?_
                              refine sq (opk_val hA18212 rfl (r_eql (hA18212.get rfl) rfl) fun a18352 hA18352 _ => ?_)
                              refine sq (opk_val hA18352 rfl (r_assign (hA18352.get rfl)) fun a18353 hA18353 _ => ?_)
                              refine sq_end ?_
                              have hA18354 := hA18353.keep [(0, .string (Bs s_1)), (4, .int .u8 ((s_1.getD x_20.toNat 0).toNat : Int)), (13, .int .i64 (s_1.length : Int)), (14, .int .i64 x_20), (20, .int .u8 ((s_1.getD x_20.toNat 0).toNat : Int)), (27, .bool (decide (((s_1.getD x_20.toNat 0).toNat : Int) = 39)))] ⟨rfl, rfl, rfl, rfl, rfl, rfl, trivial⟩
                              refine then_normal ?_
                              refine wp_meet (fun a wq => Ag 40 a [(0, .string (Bs s_1)), (4, .int .u8 ((s_1.getD x_20.toNat 0).toNat : Int)), (13, .int .i64 (s_1.length : Int)), (14, .int .i64 x_20), (27, .bool ((decide (((s_1.getD x_20.toNat 0).toNat : Int) = 39)) || ((decide (((s_1.getD x_20.toNat 0).toNat : Int) = 62)) || ((decide (((s_1.getD x_20.toNat 0).toNat : Int) = 47)) || ((decide (((s_1.getD x_20.toNat 0).toNat : Int) = 61)) || (decide (((s_1.getD x_20.toNat 0).toNat : Int) = 60)))))))] ∧ wq = w21) ?_ ?_
                              · refine wp_cond_split (hA18354.get rfl) (fun hc => ?_) (fun hc => ?_)
                                · refine wp_skip ?_
                                  have hA18421 := hA18354.say (t := 27) rfl (.bool ((decide (((s_1.getD x_20.toNat 0).toNat : Int) = 39)) || ((decide (((s_1.getD x_20.toNat 0).toNat : Int) = 62)) || ((decide (((s_1.getD x_20.toNat 0).toNat : Int) = 47)) || ((decide (((s_1.getD x_20.toNat 0).toNat : Int) = 61)) || (decide (((s_1.getD x_20.toNat 0).toNat : Int) = 60))))))) (by rw [hc]; rfl)
                                  exact then_normal ⟨hA18421.keep [(0, .string (Bs s_1)), (4, .int .u8 ((s_1.getD x_20.toNat 0).toNat : Int)), (13, .int .i64 (s_1.length : Int)), (14, .int .i64 x_20), (27, .bool ((decide (((s_1.getD x_20.toNat 0).toNat : Int) = 39)) || ((decide (((s_1.getD x_20.toNat 0).toNat : Int) = 62)) || ((decide (((s_1.getD x_20.toNat 0).toNat : Int) = 47)) || ((decide (((s_1.getD x_20.toNat 0).toNat : Int) = 61)) || (decide (((s_1.getD x_20.toNat 0).toNat : Int) = 60)))))))] ⟨rfl, rfl, rfl, rfl, rfl, trivial⟩, rfl⟩
                                · refine wp_seq ?_
                                  refine wp_region_lit ?_
                                  refine sq (opk_val hA18354 rfl (r_eql (hA18354.get rfl) rfl) fun a18422 hA18422 _ => ?_)
                                  refine sq (opk_val hA18422 rfl (r_assign (hA18422.get rfl)) fun a18423 hA18423 _ => ?_)
                                  refine sq_end ?_
                                  have hA18424 := hA18423.keep [(0, .string (Bs s_1)), (4, .int .u8 ((s_1.getD x_20.toNat 0).toNat : Int)), (13, .int .i64 (s_1.length : Int)), (14, .int .i64 x_20), (20, .int .u8 ((s_1.getD x_20.toNat 0).toNat : Int)), (27, .bool (decide (((s_1.getD x_20.toNat 0).toNat : Int) = 62)))] ⟨rfl, rfl, rfl, rfl, rfl, rfl, trivial⟩
                                  refine then_normal ?_
                                  refine wp_meet (fun a wq => Ag 40 a [(0, .string (Bs s_1)), (4, .int .u8 ((s_1.getD x_20.toNat 0).toNat : Int)), (13, .int .i64 (s_1.length : Int)), (14, .int .i64 x_20), (27, .bool ((decide (((s_1.getD x_20.toNat 0).toNat : Int) = 62)) || ((decide (((s_1.getD x_20.toNat 0).toNat : Int) = 47)) || ((decide (((s_1.getD x_20.toNat 0).toNat : Int) = 61)) || (decide (((s_1.getD x_20.toNat 0).toNat : Int) = 60))))))] ∧ wq = w21) ?_ ?_
                                  · refine wp_cond_split (hA18424.get rfl) (fun hc => ?_) (fun hc => ?_)
                                    · refine wp_skip ?_
                                      have hA18455 := hA18424.say (t := 27) rfl (.bool ((decide (((s_1.getD x_20.toNat 0).toNat : Int) = 62)) || ((decide (((s_1.getD x_20.toNat 0).toNat : Int) = 47)) || ((decide (((s_1.getD x_20.toNat 0).toNat : Int) = 61)) || (decide (((s_1.getD x_20.toNat 0).toNat : Int) = 60)))))) (by rw [hc]; rfl)
                                      exact then_normal ⟨hA18455.keep [(0, .string (Bs s_1)), (4, .int .u8 ((s_1.getD x_20.toNat 0).toNat : Int)), (13, .int .i64 (s_1.length : Int)), (14, .int .i64 x_20), (27, .bool ((decide (((s_1.getD x_20.toNat 0).toNat : Int) = 62)) || ((decide (((s_1.getD x_20.toNat 0).toNat : Int) = 47)) || ((decide (((s_1.getD x_20.toNat 0).toNat : Int) = 61)) || (decide (((s_1.getD x_20.toNat 0).toNat : Int) = 60))))))] ⟨rfl, rfl, rfl, rfl, rfl, trivial⟩, rfl⟩
                                    · refine wp_seq ?_
                                      refine wp_region_lit ?_
                                      refine sq (opk_val hA18424 rfl (r_eql (hA18424.get rfl) rfl) fun a18456 hA18456 _ => ?_)
                                      refine sq (opk_val hA18456 rfl (r_assign (hA18456.get rfl)) fun a18457 hA18457 _ => ?_)
                                      refine sq_end ?_
                                      have hA18458 := hA18457.keep [(0, .string (Bs s_1)), (4, .int .u8 ((s_1.getD x_20.toNat 0).toNat : Int)), (13, .int .i64 (s_1.length : Int)), (14, .int .i64 x_20), (20, .int .u8 ((s_1.getD x_20.toNat 0).toNat : Int)), (27, .bool (decide (((s_1.getD x_20.toNat 0).toNat : Int) = 47)))] ⟨rfl, rfl, rfl, rfl, rfl, rfl, trivial⟩
                                      refine then_normal ?_
                                      refine wp_meet (fun a wq => Ag 40 a [(0, .string (Bs s_1)), (4, .int .u8 ((s_1.getD x_20.toNat 0).toNat : Int)), (13, .int .i64 (s_1.length : Int)), (14, .int .i64 x_20), (27, .bool ((decide (((s_1.getD x_20.toNat 0).toNat : Int) = 47)) || ((decide (((s_1.getD x_20.toNat 0).toNat : Int) = 61)) || (decide (((s_1.getD x_20.toNat 0).toNat : Int) = 60)))))] ∧ wq = w21) ?_ ?_
                                      · refine wp_cond_split (hA18458.get rfl) (fun hc => ?_) (fun hc => ?_)
                                        · refine wp_skip ?_
                                          have hA18471 := hA18458.say (t := 27) rfl (.bool ((decide (((s_1.getD x_20.toNat 0).toNat : Int) = 47)) || ((decide (((s_1.getD x_20.toNat 0).toNat : Int) = 61)) || (decide (((s_1.getD x_20.toNat 0).toNat : Int) = 60))))) (by rw [hc]; rfl)
                                          exact then_normal ⟨hA18471.keep [(0, .string (Bs s_1)), (4, .int .u8 ((s_1.getD x_20.toNat 0).toNat : Int)), (13, .int .i64 (s_1.length : Int)), (14, .int .i64 x_20), (27, .bool ((decide (((s_1.getD x_20.toNat 0).toNat : Int) = 47)) || ((decide (((s_1.getD x_20.toNat 0).toNat : Int) = 61)) || (decide (((s_1.getD x_20.toNat 0).toNat : Int) = 60)))))] ⟨rfl, rfl, rfl, rfl, rfl, trivial⟩, rfl⟩
                                        · refine wp_seq ?_
                                          refine wp_region_lit ?_
                                          refine sq (opk_val hA18458 rfl (r_eql (hA18458.get rfl) rfl) fun a18472 hA18472 _ => ?_)
                                          refine sq (opk_val hA18472 rfl (r_assign (hA18472.get rfl)) fun a18473 hA18473 _ => ?_)
                                          refine sq_end ?_
                                          have hA18474 := hA18473.keep [(0, .string (Bs s_1)), (4, .int .u8 ((s_1.getD x_20.toNat 0).toNat : Int)), (13, .int .i64 (s_1.length : Int)), (14, .int .i64 x_20), (20, .int .u8 ((s_1.getD x_20.toNat 0).toNat : Int)), (27, .bool (decide (((s_1.getD x_20.toNat 0).toNat : Int) = 61)))] ⟨rfl, rfl, rfl, rfl, rfl, rfl, trivial⟩
                                          refine then_normal ?_
                                          refine wp_meet (fun a wq => Ag 40 a [(0, .string (Bs s_1)), (4, .int .u8 ((s_1.getD x_20.toNat 0).toNat : Int)), (13, .int .i64 (s_1.length : Int)), (14, .int .i64 x_20), (27, .bool ((decide (((s_1.getD x_20.toNat 0).toNat : Int) = 61)) || (decide (((s_1.getD x_20.toNat 0).toNat : Int) = 60))))] ∧ wq = w21) ?_ ?_
                                          · refine wp_cond_split (hA18474.get rfl) (fun hc => ?_) (fun hc => ?_)
                                            · refine wp_skip ?_
                                              have hA18478 := hA18474.say (t := 27) rfl (.bool ((decide (((s_1.getD x_20.toNat 0).toNat : Int) = 61)) || (decide (((s_1.getD x_20.toNat 0).toNat : Int) = 60)))) (by rw [hc]; rfl)
                                              exact then_normal ⟨hA18478.keep [(0, .string (Bs s_1)), (4, .int .u8 ((s_1.getD x_20.toNat 0).toNat : Int)), (13, .int .i64 (s_1.length : Int)), (14, .int .i64 x_20), (27, .bool ((decide (((s_1.getD x_20.toNat 0).toNat : Int) = 61)) || (decide (((s_1.getD x_20.toNat 0).toNat : Int) = 60))))] ⟨rfl, rfl, rfl, rfl, rfl, trivial⟩, rfl⟩
                                            · refine wp_region_lit ?_
                                              refine sq (opk_val hA18474 rfl (r_eql (hA18474.get rfl) rfl) fun a18479 hA18479 _ => ?_)
                                              refine sq (opk_val hA18479 rfl (r_assign (hA18479.get rfl)) fun a18480 hA18480 _ => ?_)
                                              refine sq_end ?_
                                              have hA18481 := hA18480.keep [(0, .string (Bs s_1)), (4, .int .u8 ((s_1.getD x_20.toNat 0).toNat : Int)), (13, .int .i64 (s_1.length : Int)), (14, .int .i64 x_20), (27, .bool (decide (((s_1.getD x_20.toNat 0).toNat : Int) = 60)))] ⟨rfl, rfl, rfl, rfl, rfl, trivial⟩
                                              have hA18482 := hA18481.say (t := 27) rfl (.bool ((decide (((s_1.getD x_20.toNat 0).toNat : Int) = 61)) || (decide (((s_1.getD x_20.toNat 0).toNat : Int) = 60)))) (by rw [hc]; rfl)
                                              exact then_normal ⟨hA18482.keep [(0, .string (Bs s_1)), (4, .int .u8 ((s_1.getD x_20.toNat 0).toNat : Int)), (13, .int .i64 (s_1.length : Int)), (14, .int .i64 x_20), (27, .bool ((decide (((s_1.getD x_20.toNat 0).toNat : Int) = 61)) || (decide (((s_1.getD x_20.toNat 0).toNat : Int) = 60))))] ⟨rfl, rfl, rfl, rfl, rfl, trivial⟩, rfl⟩
                                          · rintro a18483 w_ ⟨hA18483, hw_⟩
                                            have hw_ : w21 = w_ := hw_.symm
                                            subst hw_
                                            have hA18484 := hA18483.say (t := 27) rfl (.bool ((decide (((s_1.getD x_20.toNat 0).toNat : Int) = 47)) || ((decide (((s_1.getD x_20.toNat 0).toNat : Int) = 61)) || (decide (((s_1.getD x_20.toNat 0).toNat : Int) = 60))))) (by rw [hc]; rfl)
                                            exact then_normal ⟨hA18484.keep [(0, .string (Bs s_1)), (4, .int .u8 ((s_1.getD x_20.toNat 0).toNat : Int)), (13, .int .i64 (s_1.length : Int)), (14, .int .i64 x_20), (27, .bool ((decide (((s_1.getD x_20.toNat 0).toNat : Int) = 47)) || ((decide (((s_1.getD x_20.toNat 0).toNat : Int) = 61)) || (decide (((s_1.getD x_20.toNat 0).toNat : Int) = 60)))))] ⟨rfl, rfl, rfl, rfl, rfl, trivial⟩, rfl⟩
                                      · rintro a18485 w_ ⟨hA18485, hw_⟩
                                        have hw_ : w21 = w_ := hw_.symm
                                        subst hw_
                                        have hA18486 := hA18485.say (t := 27) rfl (.bool ((decide (((s_1.getD x_20.toNat 0).toNat : Int) = 62)) || ((decide (((s_1.getD x_20.toNat 0).toNat : Int) = 47)) || ((decide (((s_1.getD x_20.toNat 0).toNat : Int) = 61)) || (decide (((s_1.getD x_20.toNat 0).toNat : Int) = 60)))))) (by rw [hc]; rfl)
                                        exact then_normal ⟨hA18486.keep [(0, .string (Bs s_1)), (4, .int .u8 ((s_1.getD x_20.toNat 0).toNat : Int)), (13, .int .i64 (s_1.length : Int)), (14, .int .i64 x_20), (27, .bool ((decide (((s_1.getD x_20.toNat 0).toNat : Int) = 62)) || ((decide (((s_1.getD x_20.toNat 0).toNat : Int) = 47)) || ((decide (((s_1.getD x_20.toNat 0).toNat : Int) = 61)) || (decide (((s_1.getD x_20.toNat 0).toNat : Int) = 60))))))] ⟨rfl, rfl, rfl, rfl, rfl, trivial⟩, rfl⟩
                                  · rintro a18487 w_ ⟨hA18487, hw_⟩
                                    have hw_ : w21 = w_ := hw_.symm
                                    subst hw_
                                    have hA18488 := hA18487.say (t := 27) rfl (.bool ((decide (((s_1.getD x_20.toNat 0).toNat : Int) = 39)) || ((decide (((s_1.getD x_20.toNat 0).toNat : Int) = 62)) || ((decide (((s_1.getD x_20.toNat 0).toNat : Int) = 47)) || ((decide (((s_1.getD x_20.toNat 0).toNat : Int) = 61)) || (decide (((s_1.getD x_20.toNat 0).toNat : Int) = 60))))))) (by rw [hc]; rfl)
                                    exact then_normal ⟨hA18488.keep [(0, .string (Bs s_1)), (4, .int .u8 ((s_1.getD x_20.toNat 0).toNat : Int)), (13, .int .i64 (s_1.length : Int)), (14, .int .i64 x_20), (27, .bool ((decide (((s_1.getD x_20.toNat 0).toNat : Int) = 39)) || ((decide (((s_1.getD x_20.toNat 0).toNat : Int) = 62)) || ((decide (((s_1.getD x_20.toNat 0).toNat : Int) = 47)) || ((decide (((s_1.getD x_20.toNat 0).toNat : Int) = 61)) || (decide (((s_1.getD x_20.toNat 0).toNat : Int) = 60)))))))] ⟨rfl, rfl, rfl, rfl, rfl, trivial⟩, rfl⟩
                              · rintro a18489 w_ ⟨hA18489, hw_⟩
                                have hw_ : w21 = w_ := hw_.symm
                                subst hw_
                                have hA18490 := hA18489.say (t := 27) rfl (.bool ((decide (((s_1.getD x_20.toNat 0).toNat : Int) = 34)) || ((decide (((s_1.getD x_20.toNat 0).toNat : Int) = 39)) || ((decide (((s_1.getD x_20.toNat 0).toNat : Int) = 62)) || ((decide (((s_1.getD x_20.toNat 0).toNat : Int) = 47)) || ((decide (((s_1.getD x_20.toNat 0).toNat : Int) = 61)) || (decide (((s_1.getD x_20.toNat 0).toNat : Int) = 60)))))))) (by rw [hc]; rfl)
                                exact then_normal ⟨hA18490.keep [(0, .string (Bs s_1)), (4, .int .u8 ((s_1.getD x_20.toNat 0).toNat : Int)), (13, .int .i64 (s_1.length : Int)), (14, .int .i64 x_20), (27, .bool ((decide (((s_1.getD x_20.toNat 0).toNat : Int) = 34)) || ((decide (((s_1.getD x_20.toNat 0).toNat : Int) = 39)) || ((decide (((s_1.getD x_20.toNat 0).toNat : Int) = 62)) || ((decide (((s_1.getD x_20.toNat 0).toNat : Int) = 47)) || ((decide (((s_1.getD x_20.toNat 0).toNat : Int) = 61)) || (decide (((s_1.getD x_20.toNat 0).toNat : Int) = 60))))))))] ⟨rfl, rfl, rfl, rfl, rfl, trivial⟩, rfl⟩
                          · rintro a18491 w_ ⟨hA18491, hw_⟩
                            have hw_ : w21 = w_ := hw_.symm
                            subst hw_
                            have hA18492 := hA18491.say (t := 27) rfl (.bool ((decide (((s_1.getD x_20.toNat 0).toNat : Int) = 0)) || ((decide (((s_1.getD x_20.toNat 0).toNat : Int) = 34)) || ((decide (((s_1.getD x_20.toNat 0).toNat : Int) = 39)) || ((decide (((s_1.getD x_20.toNat 0).toNat : Int) = 62)) || ((decide (((s_1.getD x_20.toNat 0).toNat : Int) = 47)) || ((decide (((s_1.getD x_20.toNat 0).toNat : Int) = 61)) || (decide (((s_1.getD x_20.toNat 0).toNat : Int) = 60))))))))) (by rw [hc]; rfl)
                            exact then_normal ⟨hA18492.keep [(0, .string (Bs s_1)), (4, .int .u8 ((s_1.getD x_20.toNat 0).toNat : Int)), (13, .int .i64 (s_1.length : Int)), (14, .int .i64 x_20), (27, .bool ((decide (((s_1.getD x_20.toNat 0).toNat : Int) = 0)) || ((decide (((s_1.getD x_20.toNat 0).toNat : Int) = 34)) || ((decide (((s_1.getD x_20.toNat 0).toNat : Int) = 39)) || ((decide (((s_1.getD x_20.toNat 0).toNat : Int) = 62)) || ((decide (((s_1.getD x_20.toNat 0).toNat : Int) = 47)) || ((decide (((s_1.getD x_20.toNat 0).toNat : Int) = 61)) || (decide (((s_1.getD x_20.toNat 0).toNat : Int) = 60)))))))))] ⟨rfl, rfl, rfl, rfl, rfl, trivial⟩, rfl⟩
                      · rintro a18493 w_ ⟨hA18493, hw_⟩
                        have hw_ : w21 = w_ := hw_.symm
                        subst hw_
                        have hA18494 := hA18493.say (t := 27) rfl (.bool ((decide (((s_1.getD x_20.toNat 0).toNat : Int) = 32)) || ((decide (((s_1.getD x_20.toNat 0).toNat : Int) = 0)) || ((decide (((s_1.getD x_20.toNat 0).toNat : Int) = 34)) || ((decide (((s_1.getD x_20.toNat 0).toNat : Int) = 39)) || ((decide (((s_1.getD x_20.toNat 0).toNat : Int) = 62)) || ((decide (((s_1.getD x_20.toNat 0).toNat : Int) = 47)) || ((decide (((s_1.getD x_20.toNat 0).toNat : Int) = 61)) || (decide (((s_1.getD x_20.toNat 0).toNat : Int) = 60)))))))))) (by rw [hc]; rfl)
                        exact then_normal ⟨hA18494.keep [(0, .string (Bs s_1)), (4, .int .u8 ((s_1.getD x_20.toNat 0).toNat : Int)), (13, .int .i64 (s_1.length : Int)), (14, .int .i64 x_20), (27, .bool ((decide (((s_1.getD x_20.toNat 0).toNat : Int) = 32)) || ((decide (((s_1.getD x_20.toNat 0).toNat : Int) = 0)) || ((decide (((s_1.getD x_20.toNat 0).toNat : Int) = 34)) || ((decide (((s_1.getD x_20.toNat 0).toNat : Int) = 39)) || ((decide (((s_1.getD x_20.toNat 0).toNat : Int) = 62)) || ((decide (((s_1.getD x_20.toNat 0).toNat : Int) = 47)) || ((decide (((s_1.getD x_20.toNat 0).toNat : Int) = 61)) || (decide (((s_1.getD x_20.toNat 0).toNat : Int) = 60))))))))))] ⟨rfl, rfl, rfl, rfl, rfl, trivial⟩, rfl⟩
                  · rintro a18495 w_ ⟨hA18495, hw_⟩
                    have hw_ : w21 = w_ := hw_.symm
                    subst hw_
                    have hA18496 := hA18495.say (t := 27) rfl (.bool ((decide (((s_1.getD x_20.toNat 0).toNat : Int) = 12)) || ((decide (((s_1.getD x_20.toNat 0).toNat : Int) = 32)) || ((decide (((s_1.getD x_20.toNat 0).toNat : Int) = 0)) || ((decide (((s_1.getD x_20.toNat 0).toNat : Int) = 34)) || ((decide (((s_1.getD x_20.toNat 0).toNat : Int) = 39)) || ((decide (((s_1.getD x_20.toNat 0).toNat : Int) = 62)) || ((decide (((s_1.getD x_20.toNat 0).toNat : Int) = 47)) || ((decide (((s_1.getD x_20.toNat 0).toNat : Int) = 61)) || (decide (((s_1.getD x_20.toNat 0).toNat : Int) = 60))))))))))) (by rw [hc]; rfl)
                    exact then_normal ⟨hA18496.keep [(0, .string (Bs s_1)), (4, .int .u8 ((s_1.getD x_20.toNat 0).toNat : Int)), (13, .int .i64 (s_1.length : Int)), (14, .int .i64 x_20), (27, .bool ((decide (((s_1.getD x_20.toNat 0).toNat : Int) = 12)) || ((decide (((s_1.getD x_20.toNat 0).toNat : Int) = 32)) || ((decide (((s_1.getD x_20.toNat 0).toNat : Int) = 0)) || ((decide (((s_1.getD x_20.toNat 0).toNat : Int) = 34)) || ((decide (((s_1.getD x_20.toNat 0).toNat : Int) = 39)) || ((decide (((s_1.getD x_20.toNat 0).toNat : Int) = 62)) || ((decide (((s_1.getD x_20.toNat 0).toNat : Int) = 47)) || ((decide (((s_1.getD x_20.toNat 0).toNat : Int) = 61)) || (decide (((s_1.getD x_20.toNat 0).toNat : Int) = 60)))))))))))] ⟨rfl, rfl, rfl, rfl, rfl, trivial⟩, rfl⟩
              · rintro a18497 w_ ⟨hA18497, hw_⟩
                have hw_ : w21 = w_ := hw_.symm
                subst hw_
                have hA18498 := hA18497.say (t := 27) rfl (.bool ((decide (((s_1.getD x_20.toNat 0).toNat : Int) = 10)) || ((decide (((s_1.getD x_20.toNat 0).toNat : Int) = 12)) || ((decide (((s_1.getD x_20.toNat 0).toNat : Int) = 32)) || ((decide (((s_1.getD x_20.toNat 0).toNat : Int) = 0)) || ((decide (((s_1.getD x_20.toNat 0).toNat : Int) = 34)) || ((decide (((s_1.getD x_20.toNat 0).toNat : Int) = 39)) || ((decide (((s_1.getD x_20.toNat 0).toNat : Int) = 62)) || ((decide (((s_1.getD x_20.toNat 0).toNat : Int) = 47)) || ((decide (((s_1.getD x_20.toNat 0).toNat : Int) = 61)) || (decide (((s_1.getD x_20.toNat 0).toNat : Int) = 60)))))))))))) (by rw [hc]; rfl)
                exact then_normal ⟨hA18498.keep [(0, .string (Bs s_1)), (4, .int .u8 ((s_1.getD x_20.toNat 0).toNat : Int)), (13, .int .i64 (s_1.length : Int)), (14, .int .i64 x_20), (27, .bool ((decide (((s_1.getD x_20.toNat 0).toNat : Int) = 10)) || ((decide (((s_1.getD x_20.toNat 0).toNat : Int) = 12)) || ((decide (((s_1.getD x_20.toNat 0).toNat : Int) = 32)) || ((decide (((s_1.getD x_20.toNat 0).toNat : Int) = 0)) || ((decide (((s_1.getD x_20.toNat 0).toNat : Int) = 34)) || ((decide (((s_1.getD x_20.toNat 0).toNat : Int) = 39)) || ((decide (((s_1.getD x_20.toNat 0).toNat : Int) = 62)) || ((decide (((s_1.getD x_20.toNat 0).toNat : Int) = 47)) || ((decide (((s_1.getD x_20.toNat 0).toNat : Int) = 61)) || (decide (((s_1.getD x_20.toNat 0).toNat : Int) = 60))))))))))))] ⟨rfl, rfl, rfl, rfl, rfl, trivial⟩, rfl⟩
          · rintro a18499 w_ ⟨hA18499, hw_⟩
            have hw_ : w21 = w_ := hw_.symm
            subst hw_
            have hA18500 := hA18499.say (t := 27) rfl (.bool ((decide (((s_1.getD x_20.toNat 0).toNat : Int) = 9)) || ((decide (((s_1.getD x_20.toNat 0).toNat : Int) = 10)) || ((decide (((s_1.getD x_20.toNat 0).toNat : Int) = 12)) || ((decide (((s_1.getD x_20.toNat 0).toNat : Int) = 32)) || ((decide (((s_1.getD x_20.toNat 0).toNat : Int) = 0)) || ((decide (((s_1.getD x_20.toNat 0).toNat : Int) = 34)) || ((decide (((s_1.getD x_20.toNat 0).toNat : Int) = 39)) || ((decide (((s_1.getD x_20.toNat 0).toNat : Int) = 62)) || ((decide (((s_1.getD x_20.toNat 0).toNat : Int) = 47)) || ((decide (((s_1.getD x_20.toNat 0).toNat : Int) = 61)) || (decide (((s_1.getD x_20.toNat 0).toNat : Int) = 60))))))))))))) (by rw [hc]; rfl)
            exact then_normal ⟨hA18500.keep [(0, .string (Bs s_1)), (4, .int .u8 ((s_1.getD x_20.toNat 0).toNat : Int)), (13, .int .i64 (s_1.length : Int)), (14, .int .i64 x_20), (27, .bool ((decide (((s_1.getD x_20.toNat 0).toNat : Int) = 9)) || ((decide (((s_1.getD x_20.toNat 0).toNat : Int) = 10)) || ((decide (((s_1.getD x_20.toNat 0).toNat : Int) = 12)) || ((decide (((s_1.getD x_20.toNat 0).toNat : Int) = 32)) || ((decide (((s_1.getD x_20.toNat 0).toNat : Int) = 0)) || ((decide (((s_1.getD x_20.toNat 0).toNat : Int) = 34)) || ((decide (((s_1.getD x_20.toNat 0).toNat : Int) = 39)) || ((decide (((s_1.getD x_20.toNat 0).toNat : Int) = 62)) || ((decide (((s_1.getD x_20.toNat 0).toNat : Int) = 47)) || ((decide (((s_1.getD x_20.toNat 0).toNat : Int) = 61)) || (decide (((s_1.getD x_20.toNat 0).toNat : Int) = 60)))))))))))))] ⟨rfl, rfl, rfl, rfl, rfl, trivial⟩, rfl⟩
      · rintro a18501 w_ ⟨hA18501, hw_⟩
        have hw_ : w21 = w_ := hw_.symm
        subst hw_
        refine then_normal ?_
        refine wp_cond_split (hA18501.get rfl) (fun hc => ?_) (fun hc => ?_)
        · have ht18502 := ht9287.1 ((b_or_t hc).imp (fun h => (of_decide_eq_true h)) (fun h => ((b_or_t h).imp (fun h => (of_decide_eq_true h)) (fun h => ((b_or_t h).imp (fun h => (of_decide_eq_true h)) (fun h => ((b_or_t h).imp (fun h => (of_decide_eq_true h)) (fun h => ((b_or_t h).imp (fun h => (of_decide_eq_true h)) (fun h => ((b_or_t h).imp (fun h => (of_decide_eq_true h)) (fun h => ((b_or_t h).imp (fun h => (of_decide_eq_true h)) (fun h => ((b_or_t h).imp (fun h => (of_decide_eq_true h)) (fun h => ((b_or_t h).imp (fun h => (of_decide_eq_true h)) (fun h => ((b_or_t h).imp (fun h => (of_decide_eq_true h)) (fun h => (of_decide_eq_true h)))))))))))))))))))))
          clear hc
          refine wp_seq ?_
          refine wp_region_lit ?_
          refine sq (opk_val hA18501 rfl (r_assign rfl) fun a18504 hA18504 _ => ?_)
          refine sq_end ?_
          have hA18505 := hA18504.keep [(2, .bool false)] ⟨rfl, trivial⟩
          refine then_normal ?_
          refine wp_ret ?_
          refine block_ret ?_
          refine block_ret ?_
          refine then_ret ?_
          refine then_ret ?_
          refine block_ret ?_
          refine then_ret ?_
          exact res_all (vs := [.bool false]) rfl hA18505 ⟨res_of_tmp hA18505 rfl, trivial⟩ ht18502
        · have ht18503 := ht9287.2 ⟨(of_decide_eq_false (b_or_f hc).1), ⟨(of_decide_eq_false (b_or_f (b_or_f hc).2).1), ⟨(of_decide_eq_false (b_or_f (b_or_f (b_or_f hc).2).2).1), ⟨(of_decide_eq_false (b_or_f (b_or_f (b_or_f (b_or_f hc).2).2).2).1), ⟨(of_decide_eq_false (b_or_f (b_or_f (b_or_f (b_or_f (b_or_f hc).2).2).2).2).1), ⟨(of_decide_eq_false (b_or_f (b_or_f (b_or_f (b_or_f (b_or_f (b_or_f hc).2).2).2).2).2).1), ⟨(of_decide_eq_false (b_or_f (b_or_f (b_or_f (b_or_f (b_or_f (b_or_f (b_or_f hc).2).2).2).2).2).2).1), ⟨(of_decide_eq_false (b_or_f (b_or_f (b_or_f (b_or_f (b_or_f (b_or_f (b_or_f (b_or_f hc).2).2).2).2).2).2).2).1), ⟨(of_decide_eq_false (b_or_f (b_or_f (b_or_f (b_or_f (b_or_f (b_or_f (b_or_f (b_or_f (b_or_f hc).2).2).2).2).2).2).2).2).1), ⟨(of_decide_eq_false (b_or_f (b_or_f (b_or_f (b_or_f (b_or_f (b_or_f (b_or_f (b_or_f (b_or_f (b_or_f hc).2).2).2).2).2).2).2).2).2).1), (of_decide_eq_false (b_or_f (b_or_f (b_or_f (b_or_f (b_or_f (b_or_f (b_or_f (b_or_f (b_or_f (b_or_f hc).2).2).2).2).2).2).2).2).2).2)⟩⟩⟩⟩⟩⟩⟩⟩⟩⟩
          clear hc
          refine wp_seq ?_
          refine wp_region_lit ?_
          refine sq (opk_val hA18501 rfl (r_move (hA18501.get rfl)) fun a18506 hA18506 _ => ?_)
          refine sq (opk_val hA18506 rfl (r_geq (hA18506.get rfl) rfl) fun a18507 hA18507 _ => ?_)
          refine sq (opk_val hA18507 rfl (r_move (hA18507.get rfl)) fun a18508 hA18508 _ => ?_)
          refine sq (opk_gval hA18508 rfl rfl (g := true) (e := (decide (65 ≤ ((s_1.getD x_20.toNat 0).toNat : Int)))) rfl (fun hg => r_move (hA18508.get rfl)) fun a18509 hA18509 _ => ?_)
          refine sq (opk_gval hA18509 rfl rfl (g := true) (e := (decide (65 ≤ ((s_1.getD x_20.toNat 0).toNat : Int)))) rfl (fun hg => r_leq (cv_get (hA18509.get rfl) hg) rfl) fun a18510 hA18510 _ => ?_)
          refine sq (opk_val hA18510 rfl (r_pick_and (g := (true && ((decide (65 ≤ ((s_1.getD x_20.toNat 0).toNat : Int))) == true))) (hA18510.get rfl) (hA18510.get rfl) (fun he => g_mkt rfl he)) fun a18511 hA18511 _ => ?_)
          refine sq_end ?_
          have hA18512 := hA18511.keep [(0, .string (Bs s_1)), (13, .int .i64 (s_1.length : Int)), (14, .int .i64 x_20), (26, .bool ((decide (65 ≤ ((s_1.getD x_20.toNat 0).toNat : Int))) && (decide (((s_1.getD x_20.toNat 0).toNat : Int) ≤ 90))))] ⟨rfl, rfl, rfl, rfl, trivial⟩
          refine then_normal ?_
          refine wp_cond_split (hA18512.get rfl) (fun hc => ?_) (fun hc => ?_)
          · have ht18513 := ht18503.1 ⟨(of_decide_eq_true (b_and_t hc).1), (of_decide_eq_true (b_and_t hc).2)⟩
            clear hc
            refine wp_seq ?_
            refine wp_region_lit ?_
            refine sq (opk_val hA18512 rfl (r_assign rfl) fun a18515 hA18515 _ => ?_)
            refine sq_end ?_
            have hA18516 := hA18515.keep [(2, .bool false)] ⟨rfl, trivial⟩
            refine then_normal ?_
            refine wp_ret ?_
            refine block_ret ?_
            refine block_ret ?_
            refine then_ret ?_
            refine then_ret ?_
            refine block_ret ?_
            refine then_ret ?_
            exact res_all (vs := [.bool false]) rfl hA18516 ⟨res_of_tmp hA18516 rfl, trivial⟩ ht18513
          · have ht18514 := ht18503.2 ((b_and_f hc).imp (fun h => (of_decide_eq_false h)) (fun h => (of_decide_eq_false h)))
            clear hc
            refine wp_skip ?_
            refine block_normal ?_
            refine block_normal ?_
            refine then_normal ?_
            refine wp_region_lit ?_
            obtain ⟨hS18518, ht18519⟩ := ht18514
            refine sq (opk_val hA18512 rfl (r_addI (hA18512.get rfl) rfl hS18518) fun a18517 hA18517 _ => ?_)
            refine sq (opk_val hA18517 rfl (r_move (hA18517.get rfl)) fun a18520 hA18520 _ => ?_)
            refine sq_end ?_
            have hA18521 := hA18520.keep [(0, .string (Bs s_1)), (13, .int .i64 (s_1.length : Int)), (14, .int .i64 (x_20 + 1))] ⟨rfl, rfl, rfl, trivial⟩
            have hA18522 := hA18521.keep [(0, .string (Bs s_1)), (13, .int .i64 (s_1.length : Int)), (14, .int .i64 (x_20 + 1))] ⟨rfl, rfl, rfl, trivial⟩
            exact then_normal ⟨(x_20 + 1, w21), ⟨hA18522, rfl, ht18519.1⟩, ht18519.2⟩
    · have ht9279 := ht9274.2 (of_decide_eq_false hc)
      clear hc
      refine wp_exit ?_
      refine then_exit ?_
      refine then_exit ?_
      refine block_hit ?_
      have hA18523 := hA9277.keep [] trivial
      refine then_normal ?_
      refine wp_seq ?_
      refine wp_region_lit ?_
      refine sq (opk_val hA18523 rfl (r_assign rfl) fun a18524 hA18524 _ => ?_)
      refine sq_end ?_
      have hA18525 := hA18524.keep [(2, .bool true)] ⟨rfl, trivial⟩
      refine then_normal ?_
      refine wp_ret ?_
      exact res_all (vs := [.bool true]) rfl hA18525 ⟨res_of_tmp hA18525 rfl, trivial⟩ ht9279

/-- The condition of topiary/tree.attrs. -/
def tree_attrs.vc (l_1 : Sl) (R : Value → World → Prop) (w : World) : Prop :=
((12 < (l_1.n : Int)) →
R (.bool false) w) ∧
((¬ (12 < (l_1.n : Int))) →
∃ (J_21 : Str → Int → World → Prop) (mu_22 : Str → Int → World → Nat),
J_21 ([] : Str) 0 w ∧
(∀ (last_18 : Str) (x_19 : Int) (w20 : World), J_21 last_18 x_19 w20 →
((x_19 < (l_1.n : Int)) →
((0 : Int) ≤ x_19 ∧ x_19 < (l_1.n : Int)) ∧ ∃ p_101 : Addr, l_1.a = some p_101 ∧
∃ (x_107_Name : Str) (x_107_Value : Str), (Cells w20 (p_101.add (x_19.toNat * 2)) [.string (Bs x_107_Name), .string (Bs x_107_Value)]) ∧
∀ (w118 : World) (B_110 : Nat), New w20 B_110 w118 → Chg [] w20 w118 →
∃ (r_134 : Bool), (((((Op.bytesLess x_107_Name last_18) = false) ∧ (¬ (x_107_Name = last_18)))) → Calls Tryz.prog 149 #[.string (Bs x_107_Name)] w118 (Ret fun v w' => Ext w118 w' ∧ v = .bool r_134)) ∧
(∀ w136 : World, Ext w118 w136 →
((((((Op.bytesLess x_107_Name last_18) = true) ∨ (x_107_Name = last_18)) ∨ (r_134 = false)) ∨ (4096 < (x_107_Value.length : Int))) →
R (.bool false) w136) ∧
((((((Op.bytesLess x_107_Name last_18) = false) ∧ (¬ (x_107_Name = last_18))) ∧ (r_134 = true)) ∧ (¬ (4096 < (x_107_Value.length : Int)))) →
(I64 (x_19 + 1)) ∧
J_21 x_107_Name (x_19 + 1) w136 ∧ mu_22 x_107_Name (x_19 + 1) w136 < mu_22 last_18 x_19 w20))) ∧
((¬ (x_19 < (l_1.n : Int))) →
R (.bool true) w20)))
set_option maxHeartbeats 1000000 in
set_option maxRecDepth 10000 in
theorem tree_attrs.ok (l_1 : Sl) {R : Value → World → Prop} {w : World} (ht0 : tree_attrs.vc l_1 R w) : Calls Tryz.prog 152 #[Sl.v l_1] w (Ret R) := by
  refine enter [Sl.v l_1] Tryz.func152 rfl Tryz.ntmps152 rfl ?_
  intro a0 hA0
  unfold tree_attrs.vc at ht0
  refine wp_seq ?_
  refine wp_region_lit ?_
  refine sq (opk_val hA0 rfl (r_assign rfl) fun a2 hA2 _ => ?_)
  refine sq_end ?_
  have hA3 := hA2.keep [(0, Sl.v l_1)] ⟨rfl, trivial⟩
  refine then_normal ?_
  refine wp_seq ?_
  refine wp_seq ?_
  refine wp_region_lit ?_
  refine sq (opk_val hA3 rfl (r_move (hA3.get rfl)) fun a4 hA4 _ => ?_)
  refine sq (opk_val hA4 rfl (r_len (hA4.get rfl) Tryz.underlying36) fun a5 hA5 _ => ?_)
  refine sq (opk_val hA5 rfl (r_gtr (hA5.get rfl) rfl) fun a6 hA6 _ => ?_)
  refine sq_end ?_
  have hA7 := hA6.keep [(0, Sl.v l_1), (8, .bool (decide (12 < (l_1.n : Int))))] ⟨rfl, rfl, trivial⟩
  refine then_normal ?_
  refine wp_cond_split (hA7.get rfl) (fun hc => ?_) (fun hc => ?_)
  · have ht8 := ht0.1 (of_decide_eq_true hc)
    clear hc
    refine wp_seq ?_
    refine wp_region_lit ?_
    refine sq (opk_val hA7 rfl (r_assign rfl) fun a10 hA10 _ => ?_)
    refine sq_end ?_
    have hA11 := hA10.keep [(2, .bool false)] ⟨rfl, trivial⟩
    refine then_normal ?_
    refine wp_ret ?_
    refine then_ret ?_
    exact res_all (vs := [.bool false]) rfl hA11 ⟨res_of_tmp hA11 rfl, trivial⟩ ht8
  · have ht9 := ht0.2 (of_decide_eq_false hc)
    clear hc
    refine wp_skip ?_
    refine then_normal ?_
    refine wp_seq ?_
    refine wp_region_lit ?_
    refine sq (opk_val hA7 rfl (r_assign rfl) fun a12 hA12 _ => ?_)
    refine sq_end ?_
    have hA13 := hA12.keep [(0, Sl.v l_1), (3, .string (Bs ([] : Str)))] ⟨rfl, rfl, trivial⟩
    refine then_normal ?_
    refine wp_seq ?_
    refine wp_seq ?_
    refine wp_region_lit ?_
    refine sq (opk_val hA13 rfl (r_move (hA13.get rfl)) fun a14 hA14 _ => ?_)
    refine sq (opk_val hA14 rfl (r_len (hA14.get rfl) Tryz.underlying36) fun a15 hA15 _ => ?_)
    refine sq (opk_val hA15 rfl (r_move rfl) fun a16 hA16 _ => ?_)
    refine sq_end ?_
    have hA17 := hA16.keep [(3, .string (Bs ([] : Str))), (9, Sl.v l_1), (10, .int .i64 (l_1.n : Int)), (11, .int .i64 0)] ⟨rfl, rfl, rfl, rfl, trivial⟩
    refine then_normal ?_
    refine wp_block ?_
    obtain ⟨J_21, mu_22, h094, ht93⟩ := ht9
    refine wp_loop_st (σ := Str × Int × World) (fun s a w => Ag 34 a [(3, .string (Bs s.1)), (9, Sl.v l_1), (10, .int .i64 (l_1.n : Int)), (11, .int .i64 s.2.1)] ∧ w = s.2.2 ∧ J_21 s.1 s.2.1 s.2.2) (fun s => mu_22 s.1 s.2.1 s.2.2) (([] : Str), 0, w) ⟨hA17.keep [(3, .string (Bs ([] : Str))), (9, Sl.v l_1), (10, .int .i64 (l_1.n : Int)), (11, .int .i64 0)] ⟨rfl, rfl, rfl, rfl, trivial⟩, rfl, h094⟩ ?_
    rintro ⟨last_18, x_19, w20⟩ a92 w_ ⟨hA92, hw_, hJ96⟩
    have hw_ : w20 = w_ := hw_.symm
    subst hw_
    have ht95 := ht93 last_18 x_19 _ hJ96
    refine wp_seq ?_
    refine wp_region_lit ?_
    refine sq (opk_val hA92 rfl (r_lss (hA92.get rfl) (hA92.get rfl)) fun a97 hA97 _ => ?_)
    refine sq_end ?_
    have hA98 := hA97.keep [(3, .string (Bs last_18)), (9, Sl.v l_1), (10, .int .i64 (l_1.n : Int)), (11, .int .i64 x_19), (12, .bool (decide (x_19 < (l_1.n : Int))))] ⟨rfl, rfl, rfl, rfl, rfl, trivial⟩
    refine then_normal ?_
    refine wp_seq ?_
    refine wp_cond_split (hA98.get rfl) (fun hc => ?_) (fun hc => ?_)
    · have ht99 := ht95.1 (of_decide_eq_true hc)
      clear hc
      refine wp_skip ?_
      refine then_normal ?_
      refine wp_seq ?_
      refine wp_block ?_
      refine wp_seq ?_
      refine wp_region_lit ?_
      obtain ⟨hb102, p_101, hp103, ht104⟩ := ht99
      refine sq (opk_val hA98 rfl (r_indexAddr (hA98.get rfl) (hA98.get rfl) Tryz.underlying36 ti_91 hb102 hp103) fun a105 hA105 _ => ?_)
      obtain ⟨x_107_Name, x_107_Value, hx108, ht109⟩ := ht104
      refine sq (opk_val hA105 rfl (r_loadN Tryz.underlying91 rfl ti_91 (hA105.get rfl) hx108) fun a106 hA106 _ => ?_)
      refine sq (opk_new (fun B => .pointer (some ⟨B, 0, none⟩)) hA106 rfl (r_alloc (cs := [.string (Bs ([] : Str)), .string (Bs ([] : Str))]) ti_91 rfl) fun a112 w111 B_110 hE113 hN114 hB115 hA112 _ => ?_)
      have hN116 : New w20 B_110 w111 := hN114
      have hC117 : Chg [] w20 w111 := hE113
      refine sq (opk_store hA112 hB115 (r_store (vs := [.string (Bs x_107_Name), .string (Bs x_107_Value)]) (hA112.get rfl) (hA112.get rfl) rfl ti_91 hB115 rfl (ones_all [.string (Bs x_107_Name), .string (Bs x_107_Value)] rfl)) fun a119 w118 hS120 hB121 hA119 => ?_)
      have hB122 : Box w118 B_110 91 [.string (Bs x_107_Name), .string (Bs x_107_Value)] := hB121
      have hC123 := hC117.storeNew hN116 hS120
      have hN124 := hN116.up hS120.size
      refine sq_end ?_
      have hA125 := hA119.keep [(3, .string (Bs last_18)), (5, .pointer (some (⟨B_110, 0, none⟩ : Addr))), (9, Sl.v l_1), (10, .int .i64 (l_1.n : Int)), (11, .int .i64 x_19)] ⟨rfl, rfl, rfl, rfl, rfl, trivial⟩
      refine then_normal ?_
      refine wp_seq ?_
      refine wp_seq ?_
      refine wp_region_lit ?_
      refine sq (opk_val hA125 rfl (r_fieldAddr (hA125.get rfl) Tryz.underlying91 rfl ti_9 (by decide)) fun a126 hA126 _ => ?_)
      refine sq (opk_val hA126 rfl (r_load1 Tryz.underlying9 rfl (hA126.get rfl) (hB122.cell 0 _ rfl)) fun a127 hA127 _ => ?_)
      refine sq (opk_val hA127 rfl (r_move (hA127.get rfl)) fun a128 hA128 _ => ?_)
      refine sq (opk_val hA128 rfl (r_sleq (hA128.get rfl) (hA128.get rfl)) fun a129 hA129 _ => ?_)
      refine sq (opk_val hA129 rfl (r_move (hA129.get rfl)) fun a130 hA130 _ => ?_)
      refine sq (opk_gval hA130 rfl rfl (g := true) (e := ((Op.bytesLess x_107_Name last_18) || (decide (x_107_Name = last_18)))) rfl (fun hg => r_fieldAddr (hA130.get rfl) Tryz.underlying91 rfl ti_9 (by decide)) fun a131 hA131 _ => ?_)
      refine sq (opk_gval hA131 rfl rfl (g := true) (e := ((Op.bytesLess x_107_Name last_18) || (decide (x_107_Name = last_18)))) rfl (fun hg => r_load1 Tryz.underlying9 rfl (cv_get (hA131.get rfl) hg) (hB122.cell 0 _ rfl)) fun a132 hA132 _ => ?_)
      have ht133 := ht109 w118 B_110 hN124  hC123
      obtain ⟨r_134, hc138, ht137⟩ := ht133
      refine sq (opk_gcall hA132 rfl rfl (g := true) (e := ((Op.bytesLess x_107_Name last_18) || (decide (x_107_Name = last_18)))) rfl (fun hg => r_call (args := #[.string (Bs x_107_Name)]) Tryz.func149 (by decide) rfl (map_arr (ml_cons (cv_get (hA132.get rfl) hg) ml_nil)) rfl) (fun hg => hc138 ⟨(b_or_f (g_f hg)).1, (of_decide_eq_false (b_or_f (g_f hg)).2)⟩) fun a135 w136 hA135 _ hE139 => ?_)
      have hB140 := hB122.ext hE139
      have hC141 : Chg [] w118 w136 := hE139
      have ht142 := ht137 w136 hE139
      refine sq (opk_gval hA135 rfl rfl (g := true) (e := ((Op.bytesLess x_107_Name last_18) || (decide (x_107_Name = last_18)))) rfl (fun hg => r_not (cv_get (hA135.get rfl) hg)) fun a143 hA143 _ => ?_)
      refine sq (opk_val hA143 rfl (r_pick_or (g := (true && (((Op.bytesLess x_107_Name last_18) || (decide (x_107_Name = last_18))) == false))) (hA143.get rfl) (hA143.get rfl) (fun he => g_mkf rfl he)) fun a144 hA144 _ => ?_)
      refine sq (opk_val hA144 rfl (r_move (hA144.get rfl)) fun a145 hA145 _ => ?_)
      refine sq (opk_gval hA145 rfl rfl (g := true) (e := (((Op.bytesLess x_107_Name last_18) || (decide (x_107_Name = last_18))) || (!r_134))) rfl (fun hg => r_fieldAddr (hA145.get rfl) Tryz.underlying91 rfl ti_9 (by decide)) fun a146 hA146 _ => ?_)
      refine sq (opk_gval hA146 rfl rfl (g := true) (e := (((Op.bytesLess x_107_Name last_18) || (decide (x_107_Name = last_18))) || (!r_134))) rfl (fun hg => r_load1 Tryz.underlying9 rfl (cv_get (hA146.get rfl) hg) (hB140.cell 1 _ rfl)) fun a147 hA147 _ => ?_)
      refine sq (opk_gval hA147 rfl rfl (g := true) (e := (((Op.bytesLess x_107_Name last_18) || (decide (x_107_Name = last_18))) || (!r_134))) rfl (fun hg => r_slen (cv_get (hA147.get rfl) hg) Tryz.underlying9) fun a148 hA148 _ => ?_)
      refine sq (opk_gval hA148 rfl rfl (g := true) (e := (((Op.bytesLess x_107_Name last_18) || (decide (x_107_Name = last_18))) || (!r_134))) rfl (fun hg => r_gtr (cv_get (hA148.get rfl) hg) rfl) fun a149 hA149 _ => ?_)
      refine sq (opk_val hA149 rfl (r_pick_or (g := (true && ((((Op.bytesLess x_107_Name last_18) || (decide (x_107_Name = last_18))) || (!r_134)) == false))) (hA149.get rfl) (hA149.get rfl) (fun he => g_mkf rfl he)) fun a150 hA150 _ => ?_)
      refine sq_end ?_
      have hA151 := hA150.keep [(5, .pointer (some (⟨B_110, 0, none⟩ : Addr))), (9, Sl.v l_1), (10, .int .i64 (l_1.n : Int)), (11, .int .i64 x_19), (30, .bool ((((Op.bytesLess x_107_Name last_18) || (decide (x_107_Name = last_18))) || (!r_134)) || (decide (4096 < (x_107_Value.length : Int)))))] ⟨rfl, rfl, rfl, rfl, rfl, trivial⟩
      refine then_normal ?_
      refine wp_cond_split (hA151.get rfl) (fun hc => ?_) (fun hc => ?_)
      · have ht152 := ht142.1 ((b_or_t hc).imp (fun h => ((b_or_t h).imp (fun h => ((b_or_t h).imp (fun h => h) (fun h => (of_decide_eq_true h)))) (fun h => (b_not_t h)))) (fun h => (of_decide_eq_true h)))
        clear hc
        refine wp_seq ?_
        refine wp_region_lit ?_
        refine sq (opk_val hA151 rfl (r_assign rfl) fun a154 hA154 _ => ?_)
        refine sq_end ?_
        have hA155 := hA154.keep [(2, .bool false)] ⟨rfl, trivial⟩
        refine then_normal ?_
        refine wp_ret ?_
        refine then_ret ?_
        refine block_ret ?_
        refine then_ret ?_
        refine then_ret ?_
        refine block_ret ?_
        refine then_ret ?_
        exact res_all (vs := [.bool false]) rfl hA155 ⟨res_of_tmp hA155 rfl, trivial⟩ ht152
      · have ht153 := ht142.2 ⟨⟨⟨(b_or_f (b_or_f (b_or_f hc).1).1).1, (of_decide_eq_false (b_or_f (b_or_f (b_or_f hc).1).1).2)⟩, (b_not_f (b_or_f (b_or_f hc).1).2)⟩, (of_decide_eq_false (b_or_f hc).2)⟩
        clear hc
        refine wp_skip ?_
        refine then_normal ?_
        refine wp_region_lit ?_
        refine sq (opk_val hA151 rfl (r_fieldAddr (hA151.get rfl) Tryz.underlying91 rfl ti_9 (by decide)) fun a156 hA156 _ => ?_)
        refine sq (opk_val hA156 rfl (r_load1 Tryz.underlying9 rfl (hA156.get rfl) (hB140.cell 0 _ rfl)) fun a157 hA157 _ => ?_)
        refine sq (opk_val hA157 rfl (r_assign (hA157.get rfl)) fun a158 hA158 _ => ?_)
        refine sq_end ?_
        have hA159 := hA158.keep [(3, .string (Bs x_107_Name)), (9, Sl.v l_1), (10, .int .i64 (l_1.n : Int)), (11, .int .i64 x_19)] ⟨rfl, rfl, rfl, rfl, trivial⟩
        refine block_normal ?_
        refine then_normal ?_
        refine wp_region_lit ?_
        obtain ⟨hS161, ht162⟩ := ht153
        refine sq (opk_val hA159 rfl (r_addI (hA159.get rfl) rfl hS161) fun a160 hA160 _ => ?_)
        refine sq (opk_val hA160 rfl (r_move (hA160.get rfl)) fun a163 hA163 _ => ?_)
        refine sq_end ?_
        have hA164 := hA163.keep [(3, .string (Bs x_107_Name)), (9, Sl.v l_1), (10, .int .i64 (l_1.n : Int)), (11, .int .i64 (x_19 + 1))] ⟨rfl, rfl, rfl, rfl, trivial⟩
        have hA165 := hA164.keep [(3, .string (Bs x_107_Name)), (9, Sl.v l_1), (10, .int .i64 (l_1.n : Int)), (11, .int .i64 (x_19 + 1))] ⟨rfl, rfl, rfl, rfl, trivial⟩
        exact then_normal ⟨(x_107_Name, x_19 + 1, w136), ⟨hA165, rfl, ht162.1⟩, ht162.2⟩
    · have ht100 := ht95.2 (of_decide_eq_false hc)
      clear hc
      refine wp_exit ?_
      refine then_exit ?_
      refine then_exit ?_
      refine block_hit ?_
      have hA166 := hA98.keep [] trivial
      refine then_normal ?_
      refine wp_seq ?_
      refine wp_region_lit ?_
      refine sq (opk_val hA166 rfl (r_assign rfl) fun a167 hA167 _ => ?_)
      refine sq_end ?_
      have hA168 := hA167.keep [(2, .bool true)] ⟨rfl, trivial⟩
      refine then_normal ?_
      refine wp_ret ?_
      exact res_all (vs := [.bool true]) rfl hA168 ⟨res_of_tmp hA168 rfl, trivial⟩ ht100

end Go.Proofs.YteacalmdpoblpaaGreat
