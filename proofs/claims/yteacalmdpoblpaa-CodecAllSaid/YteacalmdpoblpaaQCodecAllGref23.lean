/-
  PRINTED BY PROGRAM: for each function its condition (vc), and that this suffices (ok).
-/
import Derived.Test.YteacalmdpoblpaaQCodecAllGT
namespace Go.Proofs.Yteacalmdpoblpaa
open Go.RowKit
set_option linter.unusedVariables false

/-- The condition of topiary/topiaryref23.Right. -/
def ref23_Right.vc (o_1_Kind : Int) (o_1_ID : Int) (o_1_Parent : Int) (o_1_At : Int) (o_1_What : Int) (o_1_Name : Str) (o_1_Text : Str) (R : Value → World → Prop) (w : World) : Prop :=
(((o_1_ID < 0) ∨ (1048576 < o_1_ID)) →
∀ (w3 : World) (B_2 : Nat), New w B_2 w3 → Chg [] w w3 →
R (.bool false) w3) ∧
(((¬ (o_1_ID < 0)) ∧ (¬ (1048576 < o_1_ID))) →
((o_1_Kind = 1) →
∀ (w42 : World) (B_2 : Nat) (B_31 : Nat), New w B_2 w42 → New w B_31 w42 → B_2 ≠ B_31 → Chg [] w w42 →
R (.bool ((decide (1 ≤ o_1_What)) && (decide (o_1_What ≤ 5)))) w42) ∧
((¬ (o_1_Kind = 1)) →
((o_1_Kind = 2) →
∀ (w42 : World) (B_2 : Nat) (B_31 : Nat), New w B_2 w42 → New w B_31 w42 → B_2 ≠ B_31 → Chg [] w w42 →
R (.bool (decide (o_1_Kind = o_1_Kind ∧ o_1_ID = o_1_ID ∧ 0 = o_1_Parent ∧ 0 = o_1_At ∧ 0 = o_1_What ∧ ([] : Str) = o_1_Name ∧ ([] : Str) = o_1_Text))) w42) ∧
((¬ (o_1_Kind = 2)) →
((o_1_Kind = 3) →
∀ (w87 : World) (B_2 : Nat) (B_31 : Nat), New w B_2 w87 → New w B_31 w87 → B_2 ≠ B_31 → Chg [] w w87 →
∀ (w114 : World), Chg [B_31] w87 w114 →
∀ (w135 : World), Chg [B_31] w114 w135 →
R (.bool (decide (o_1_Kind = o_1_Kind ∧ o_1_ID = o_1_ID ∧ o_1_Parent = o_1_Parent ∧ o_1_At = o_1_At ∧ 0 = o_1_What ∧ ([] : Str) = o_1_Name ∧ ([] : Str) = o_1_Text))) w135) ∧
((¬ (o_1_Kind = 3)) →
((o_1_Kind = 4) →
∀ (w154 : World) (B_2 : Nat) (B_31 : Nat), New w B_2 w154 → New w B_31 w154 → B_2 ≠ B_31 → Chg [] w w154 →
∀ (w181 : World), Chg [B_31] w154 w181 →
∀ (w202 : World), Chg [B_31] w181 w202 →
R (.bool (decide (o_1_Kind = o_1_Kind ∧ o_1_ID = o_1_ID ∧ 0 = o_1_Parent ∧ 0 = o_1_At ∧ 0 = o_1_What ∧ o_1_Name = o_1_Name ∧ o_1_Text = o_1_Text))) w202) ∧
((¬ (o_1_Kind = 4)) →
((o_1_Kind = 5) →
∀ (w224 : World) (B_2 : Nat) (B_31 : Nat), New w B_2 w224 → New w B_31 w224 → B_2 ≠ B_31 → Chg [] w w224 →
R (.bool (decide (o_1_Kind = o_1_Kind ∧ o_1_ID = o_1_ID ∧ 0 = o_1_Parent ∧ 0 = o_1_At ∧ 0 = o_1_What ∧ o_1_Name = o_1_Name ∧ ([] : Str) = o_1_Text))) w224) ∧
((¬ (o_1_Kind = 5)) →
((o_1_Kind = 6) →
∀ (w248 : World) (B_2 : Nat) (B_31 : Nat), New w B_2 w248 → New w B_31 w248 → B_2 ≠ B_31 → Chg [] w w248 →
R (.bool (decide (o_1_Kind = o_1_Kind ∧ o_1_ID = o_1_ID ∧ 0 = o_1_Parent ∧ 0 = o_1_At ∧ 0 = o_1_What ∧ ([] : Str) = o_1_Name ∧ o_1_Text = o_1_Text))) w248) ∧
((¬ (o_1_Kind = 6)) →
∀ (w42 : World) (B_2 : Nat) (B_31 : Nat), New w B_2 w42 → New w B_31 w42 → B_2 ≠ B_31 → Chg [] w w42 →
R (.bool false) w42)))))))
set_option maxHeartbeats 1000000 in
set_option maxRecDepth 10000 in
theorem ref23_Right.ok (o_1_Kind : Int) (o_1_ID : Int) (o_1_Parent : Int) (o_1_At : Int) (o_1_What : Int) (o_1_Name : Str) (o_1_Text : Str) {R : Value → World → Prop} {w : World} (ht0 : ref23_Right.vc o_1_Kind o_1_ID o_1_Parent o_1_At o_1_What o_1_Name o_1_Text R w) : Calls Try.prog 27 #[.agg #[.int .i64 o_1_Kind, .int .i64 o_1_ID, .int .i64 o_1_Parent, .int .i64 o_1_At, .int .i64 o_1_What, .string (Bs o_1_Name), .string (Bs o_1_Text)]] w (Ret R) := by
  refine enter [.agg #[.int .i64 o_1_Kind, .int .i64 o_1_ID, .int .i64 o_1_Parent, .int .i64 o_1_At, .int .i64 o_1_What, .string (Bs o_1_Name), .string (Bs o_1_Text)]] Try.func27 rfl Try.ntmps27 rfl ?_
  intro a0 hA0
  unfold ref23_Right.vc at ht0
  refine wp_seq ?_
  refine wp_region_lit ?_
  refine sq (opk_new (fun B => .pointer (some ⟨B, 0, none⟩)) hA0 rfl (r_box (cs := [.int .i64 o_1_Kind, .int .i64 o_1_ID, .int .i64 o_1_Parent, .int .i64 o_1_At, .int .i64 o_1_What, .string (Bs o_1_Name), .string (Bs o_1_Text)]) (hA0.get rfl) rfl) fun a4 w3 B_2 hE5 hN6 hB7 hA4 _ => ?_)
  have hN8 : New w B_2 w3 := hN6
  have hC9 : Chg [] w w3 := hE5
  refine sq (opk_val hA4 rfl (r_assign rfl) fun a10 hA10 _ => ?_)
  refine sq_end ?_
  have hA11 := hA10.keep [(1, .pointer (some (⟨B_2, 0, none⟩ : Addr)))] ⟨rfl, trivial⟩
  refine then_normal ?_
  refine wp_seq ?_
  refine wp_seq ?_
  refine wp_region_lit ?_
  refine sq (opk_val hA11 rfl (r_fieldAddr (hA11.get rfl) Try.underlying42 rfl ti_3 (by decide)) fun a12 hA12 _ => ?_)
  refine sq (opk_val hA12 rfl (r_load1 Try.underlying3 rfl (hA12.get rfl) (hB7.cell 1 _ rfl)) fun a13 hA13 _ => ?_)
  refine sq (opk_val hA13 rfl (r_lss (hA13.get rfl) rfl) fun a14 hA14 _ => ?_)
  refine sq (opk_val hA14 rfl (r_move (hA14.get rfl)) fun a15 hA15 _ => ?_)
  refine sq (opk_gval hA15 rfl rfl (g := true) (e := (decide (o_1_ID < 0))) rfl (fun hg => r_fieldAddr (hA15.get rfl) Try.underlying42 rfl ti_3 (by decide)) fun a16 hA16 _ => ?_)
  refine sq (opk_gval hA16 rfl rfl (g := true) (e := (decide (o_1_ID < 0))) rfl (fun hg => r_load1 Try.underlying3 rfl (cv_get (hA16.get rfl) hg) (hB7.cell 1 _ rfl)) fun a17 hA17 _ => ?_)
  refine sq (opk_gval hA17 rfl rfl (g := true) (e := (decide (o_1_ID < 0))) rfl (fun hg => r_gtr (cv_get (hA17.get rfl) hg) rfl) fun a18 hA18 _ => ?_)
  refine sq (opk_val hA18 rfl (r_pick_or (g := (true && ((decide (o_1_ID < 0)) == false))) (hA18.get rfl) (hA18.get rfl) (fun he => g_mkf rfl he)) fun a19 hA19 _ => ?_)
  refine sq_end ?_
  have hA20 := hA19.keep [(1, .pointer (some (⟨B_2, 0, none⟩ : Addr))), (11, .bool ((decide (o_1_ID < 0)) || (decide (1048576 < o_1_ID))))] ⟨rfl, rfl, trivial⟩
  refine then_normal ?_
  refine wp_cond_split (hA20.get rfl) (fun hc => ?_) (fun hc => ?_)
  · have ht21 := ht0.1 ((b_or_t hc).imp (fun h => (of_decide_eq_true h)) (fun h => (of_decide_eq_true h)))
    clear hc
    refine wp_seq ?_
    refine wp_region_lit ?_
    refine sq (opk_val hA20 rfl (r_assign rfl) fun a23 hA23 _ => ?_)
    refine sq_end ?_
    have hA24 := hA23.keep [(2, .bool false)] ⟨rfl, trivial⟩
    refine then_normal ?_
    refine wp_ret ?_
    refine then_ret ?_
    have ht25 := ht21 w3 B_2 hN8  hC9
    exact res_all (vs := [.bool false]) rfl hA24 ⟨res_of_tmp hA24 rfl, trivial⟩ ht25
  · have ht22 := ht0.2 ⟨(of_decide_eq_false (b_or_f hc).1), (of_decide_eq_false (b_or_f hc).2)⟩
    clear hc
    refine wp_skip ?_
    refine then_normal ?_
    refine wp_seq ?_
    refine wp_region_lit ?_
    refine sq (opk_val hA20 rfl (r_fieldAddr (hA20.get rfl) Try.underlying42 rfl ti_3 (by decide)) fun a26 hA26 _ => ?_)
    refine sq (opk_val hA26 rfl (r_load1 Try.underlying3 rfl (hA26.get rfl) (hB7.cell 0 _ rfl)) fun a27 hA27 _ => ?_)
    refine sq (opk_val hA27 rfl (r_fieldAddr (hA27.get rfl) Try.underlying42 rfl ti_3 (by decide)) fun a28 hA28 _ => ?_)
    refine sq (opk_val hA28 rfl (r_load1 Try.underlying3 rfl (hA28.get rfl) (hB7.cell 1 _ rfl)) fun a29 hA29 _ => ?_)
    refine sq (opk_val hA29 rfl (r_build (vs := #[(0, .int .i64 o_1_Kind), (1, .int .i64 o_1_ID)]) (cells := #[.int .i64 o_1_Kind, .int .i64 o_1_ID, .int .i64 0, .int .i64 0, .int .i64 0, .string (Bs ([] : Str)), .string (Bs ([] : Str))]) (map_arr2 (ml2_cons (hA29.get rfl) (ml2_cons (hA29.get rfl) (ml2_nil)))) ti_42 Try.underlying42 pl_42 (by kernel_rfl)) fun a30 hA30 _ => ?_)
    refine sq (opk_new (fun B => .pointer (some ⟨B, 0, none⟩)) hA30 rfl (r_alloc (cs := [.int .i64 0, .int .i64 0, .int .i64 0, .int .i64 0, .int .i64 0, .string (Bs ([] : Str)), .string (Bs ([] : Str))]) ti_42 rfl) fun a33 w32 B_31 hE34 hN35 hB36 hA33 _ => ?_)
    have hne37 : B_2 ≠ B_31 := Nat.ne_of_lt (Nat.lt_of_lt_of_le hB7.lt hN35.ge)
    have hN38 := New.of hC9 hN35
    have hB39 := hB7.ext hE34
    have hC40 := hC9.more hE34
    have hN41 := hN8.up hE34.size
    refine sq (opk_store hA33 hB36 (r_store (vs := [.int .i64 o_1_Kind, .int .i64 o_1_ID, .int .i64 0, .int .i64 0, .int .i64 0, .string (Bs ([] : Str)), .string (Bs ([] : Str))]) (hA33.get rfl) (hA33.get rfl) rfl ti_42 hB36 rfl (ones_all [.int .i64 o_1_Kind, .int .i64 o_1_ID, .int .i64 0, .int .i64 0, .int .i64 0, .string (Bs ([] : Str)), .string (Bs ([] : Str))] rfl)) fun a43 w42 hS44 hB45 hA43 => ?_)
    have hB46 : Box w42 B_31 42 [.int .i64 o_1_Kind, .int .i64 o_1_ID, .int .i64 0, .int .i64 0, .int .i64 0, .string (Bs ([] : Str)), .string (Bs ([] : Str))] := hB45
    have hB47 := hB39.keep hS44 (by simpa using hne37)
    have hC48 := hC40.storeNew hN38 hS44
    have hN49 := hN41.up hS44.size
    have hN50 := hN38.up hS44.size
    refine sq_end ?_
    have hA51 := hA43.keep [(1, .pointer (some (⟨B_2, 0, none⟩ : Addr))), (3, .pointer (some (⟨B_31, 0, none⟩ : Addr)))] ⟨rfl, rfl, trivial⟩
    refine then_normal ?_
    refine wp_seq ?_
    refine wp_seq ?_
    refine wp_region_lit ?_
    refine sq (opk_val hA51 rfl (r_fieldAddr (hA51.get rfl) Try.underlying42 rfl ti_3 (by decide)) fun a52 hA52 _ => ?_)
    refine sq (opk_val hA52 rfl (r_load1 Try.underlying3 rfl (hA52.get rfl) (hB47.cell 0 _ rfl)) fun a53 hA53 _ => ?_)
    refine sq_end ?_
    have hA54 := hA53.keep [(1, .pointer (some (⟨B_2, 0, none⟩ : Addr))), (3, .pointer (some (⟨B_31, 0, none⟩ : Addr))), (18, .int .i64 o_1_Kind)] ⟨rfl, rfl, rfl, trivial⟩
    refine then_normal ?_
    refine wp_block ?_
    refine wp_seq ?_
    refine wp_region_lit ?_
    refine sq (opk_val hA54 rfl (r_eql (hA54.get rfl) rfl) fun a55 hA55 _ => ?_)
    refine sq (opk_val hA55 rfl (r_assign (hA55.get rfl)) fun a56 hA56 _ => ?_)
    refine sq_end ?_
    have hA57 := hA56.keep [(1, .pointer (some (⟨B_2, 0, none⟩ : Addr))), (3, .pointer (some (⟨B_31, 0, none⟩ : Addr))), (18, .int .i64 o_1_Kind), (19, .bool (decide (o_1_Kind = 1)))] ⟨rfl, rfl, rfl, rfl, trivial⟩
    refine then_normal ?_
    refine wp_cond_split (hA57.get rfl) (fun hc => ?_) (fun hc => ?_)
    · have ht58 := ht22.1 (of_decide_eq_true hc)
      clear hc
      refine wp_seq ?_
      refine wp_region_lit ?_
      refine sq (opk_val hA57 rfl (r_fieldAddr (hA57.get rfl) Try.underlying42 rfl ti_3 (by decide)) fun a60 hA60 _ => ?_)
      refine sq (opk_val hA60 rfl (r_load1 Try.underlying3 rfl (hA60.get rfl) (hB47.cell 4 _ rfl)) fun a61 hA61 _ => ?_)
      refine sq (opk_val hA61 rfl (r_geq (hA61.get rfl) rfl) fun a62 hA62 _ => ?_)
      refine sq (opk_val hA62 rfl (r_move (hA62.get rfl)) fun a63 hA63 _ => ?_)
      refine sq (opk_gval hA63 rfl rfl (g := true) (e := (decide (1 ≤ o_1_What))) rfl (fun hg => r_fieldAddr (hA63.get rfl) Try.underlying42 rfl ti_3 (by decide)) fun a64 hA64 _ => ?_)
      refine sq (opk_gval hA64 rfl rfl (g := true) (e := (decide (1 ≤ o_1_What))) rfl (fun hg => r_load1 Try.underlying3 rfl (cv_get (hA64.get rfl) hg) (hB47.cell 4 _ rfl)) fun a65 hA65 _ => ?_)
      refine sq (opk_gval hA65 rfl rfl (g := true) (e := (decide (1 ≤ o_1_What))) rfl (fun hg => r_leq (cv_get (hA65.get rfl) hg) rfl) fun a66 hA66 _ => ?_)
      refine sq (opk_val hA66 rfl (r_pick_and (g := (true && ((decide (1 ≤ o_1_What)) == true))) (hA66.get rfl) (hA66.get rfl) (fun he => g_mkt rfl he)) fun a67 hA67 _ => ?_)
      refine sq (opk_val hA67 rfl (r_assign (hA67.get rfl)) fun a68 hA68 _ => ?_)
      refine sq_end ?_
      have hA69 := hA68.keep [(2, .bool ((decide (1 ≤ o_1_What)) && (decide (o_1_What ≤ 5))))] ⟨rfl, trivial⟩
      refine then_normal ?_
      refine wp_ret ?_
      refine block_ret ?_
      refine then_ret ?_
      have ht70 := ht58 w42 B_2 B_31 hN49 hN50 hne37 hC48
      exact res_all (vs := [.bool ((decide (1 ≤ o_1_What)) && (decide (o_1_What ≤ 5)))]) rfl hA69 ⟨res_of_tmp hA69 rfl, trivial⟩ ht70
    · have ht59 := ht22.2 (of_decide_eq_false hc)
      clear hc
      refine wp_seq ?_
      refine wp_region_lit ?_
      refine sq (opk_val hA57 rfl (r_eql (hA57.get rfl) rfl) fun a71 hA71 _ => ?_)
      refine sq (opk_val hA71 rfl (r_assign (hA71.get rfl)) fun a72 hA72 _ => ?_)
      refine sq_end ?_
      have hA73 := hA72.keep [(1, .pointer (some (⟨B_2, 0, none⟩ : Addr))), (3, .pointer (some (⟨B_31, 0, none⟩ : Addr))), (18, .int .i64 o_1_Kind), (29, .bool (decide (o_1_Kind = 2)))] ⟨rfl, rfl, rfl, rfl, trivial⟩
      refine then_normal ?_
      refine wp_cond_split (hA73.get rfl) (fun hc => ?_) (fun hc => ?_)
      · have ht74 := ht59.1 (of_decide_eq_true hc)
        clear hc
        refine wp_skip ?_
        refine block_normal ?_
        refine then_normal ?_
        refine wp_seq ?_
        refine wp_region_lit ?_
        refine sq (opk_val hA73 rfl (r_loadN (cs := [.int .i64 o_1_Kind, .int .i64 o_1_ID, .int .i64 0, .int .i64 0, .int .i64 0, .string (Bs ([] : Str)), .string (Bs ([] : Str))]) Try.underlying42 rfl ti_42 (hA73.get rfl) (hB46.part 0 _ rfl)) fun a76 hA76 _ => ?_)
        refine sq (opk_val hA76 rfl (r_loadN (cs := [.int .i64 o_1_Kind, .int .i64 o_1_ID, .int .i64 o_1_Parent, .int .i64 o_1_At, .int .i64 o_1_What, .string (Bs o_1_Name), .string (Bs o_1_Text)]) Try.underlying42 rfl ti_42 (hA76.get rfl) (hB47.part 0 _ rfl)) fun a77 hA77 _ => ?_)
        refine sq (opk_val hA77 rfl (r_aeql (hA77.get rfl) (hA77.get rfl) (eq_42 _ _ _ _ _ _ _ _ _ _ _ _ _ _)) fun a78 hA78 _ => ?_)
        refine sq (opk_val hA78 rfl (r_assign (hA78.get rfl)) fun a79 hA79 _ => ?_)
        refine sq_end ?_
        have hA80 := hA79.keep [(2, .bool (decide (o_1_Kind = o_1_Kind ∧ o_1_ID = o_1_ID ∧ 0 = o_1_Parent ∧ 0 = o_1_At ∧ 0 = o_1_What ∧ ([] : Str) = o_1_Name ∧ ([] : Str) = o_1_Text)))] ⟨rfl, trivial⟩
        refine then_normal ?_
        refine wp_ret ?_
        have ht81 := ht74 w42 B_2 B_31 hN49 hN50 hne37 hC48
        exact res_all (vs := [.bool (decide (o_1_Kind = o_1_Kind ∧ o_1_ID = o_1_ID ∧ 0 = o_1_Parent ∧ 0 = o_1_At ∧ 0 = o_1_What ∧ ([] : Str) = o_1_Name ∧ ([] : Str) = o_1_Text))]) rfl hA80 ⟨res_of_tmp hA80 rfl, trivial⟩ ht81
      · have ht75 := ht59.2 (of_decide_eq_false hc)
        clear hc
        refine wp_seq ?_
        refine wp_region_lit ?_
        refine sq (opk_val hA73 rfl (r_eql (hA73.get rfl) rfl) fun a82 hA82 _ => ?_)
        refine sq (opk_val hA82 rfl (r_assign (hA82.get rfl)) fun a83 hA83 _ => ?_)
        refine sq_end ?_
        have hA84 := hA83.keep [(1, .pointer (some (⟨B_2, 0, none⟩ : Addr))), (3, .pointer (some (⟨B_31, 0, none⟩ : Addr))), (18, .int .i64 o_1_Kind), (31, .bool (decide (o_1_Kind = 3)))] ⟨rfl, rfl, rfl, rfl, trivial⟩
        refine then_normal ?_
        refine wp_cond_split (hA84.get rfl) (fun hc => ?_) (fun hc => ?_)
        · have ht85 := ht75.1 (of_decide_eq_true hc)
          clear hc
          refine draw' (by kernel_rfl) fun w87 hE88 => ?_
          have hB89 := hB47.ext hE88
          have hB90 := hB46.ext hE88
          have hC91 := hC48.more hE88
          have hN92 := hN49.up hE88.size
          have hN93 := hN50.up hE88.size
          have ht94 := ht85 w87 B_2 B_31 hN92 hN93 hne37 hC91
          refine startF (D := [[], [0], [], [2], [0, 1], [0, 1, 4], [0, 1, 2, 3, 4, 5], [0, 1, 2, 3, 4, 5, 6]]) (Fs := [0, 1, 2, 3, 4]) (Ef := [(0, fun v _ => v = .pointer (some (⟨B_2, 2, none⟩ : Addr))), (1, fun v _ => v = .int .i64 o_1_Parent), (2, fun v _ => v = .pointer (some (⟨B_2, 3, none⟩ : Addr))), (3, fun v _ => v = .int .i64 o_1_At), (4, fun v _ => v = .pointer (some (⟨B_31, 2, none⟩ : Addr)))]) (by kernel_rfl) ?_
          refine oneF (c := 5) hA84 rfl (by kernel_rfl) (constF ⟨fun _ _ _ h => by first | exact h | (change _ = _ at h; change _ = _; exact h), fun _ _ _ h => by first | exact h | (change _ = _ at h; change _ = _; exact h), fun _ _ _ h => by first | exact h | (change _ = _ at h; change _ = _; exact h), fun _ _ _ h => by first | exact h | (change _ = _ at h; change _ = _; exact h), fun _ _ _ h => by first | exact h | (change _ = _ at h; change _ = _; exact h), trivial⟩) ⟨?_, ?_, ?_, ?_, ?_, trivial⟩ ?_
          · intro a hT
            have hAp := hT.ag hA84 [(1, .pointer (some (⟨B_2, 0, none⟩ : Addr)))] ⟨rfl, trivial⟩ (by kernel_rfl)
            exact opk_val hAp rfl (r_fieldAddr (hAp.get rfl) Try.underlying42 rfl ti_3 (by decide)) fun _ _ e => ⟨_, e, rfl, fun _ => Eq.refl _⟩
          · intro a hT
            have hAp := hT.ag hA84 [] trivial (by kernel_rfl)
            have e95 : a.tmps.getD 33 undef = .pointer (some (⟨B_2, 2, none⟩ : Addr)) := hT.vals 0 rfl 33 rfl
            have hAp := hAp.add e95
            exact opk_val hAp rfl (r_load1 Try.underlying3 rfl (hAp.get rfl) ((hB89.ext hT.chg).cell 2 _ rfl)) fun _ _ e => ⟨_, e, rfl, fun _ => Eq.refl _⟩
          · intro a hT
            have hAp := hT.ag hA84 [(1, .pointer (some (⟨B_2, 0, none⟩ : Addr)))] ⟨rfl, trivial⟩ (by kernel_rfl)
            exact opk_val hAp rfl (r_fieldAddr (hAp.get rfl) Try.underlying42 rfl ti_3 (by decide)) fun _ _ e => ⟨_, e, rfl, fun _ => Eq.refl _⟩
          · intro a hT
            have hAp := hT.ag hA84 [] trivial (by kernel_rfl)
            have e96 : a.tmps.getD 35 undef = .pointer (some (⟨B_2, 3, none⟩ : Addr)) := hT.vals 2 rfl 35 rfl
            have hAp := hAp.add e96
            exact opk_val hAp rfl (r_load1 Try.underlying3 rfl (hAp.get rfl) ((hB89.ext hT.chg).cell 3 _ rfl)) fun _ _ e => ⟨_, e, rfl, fun _ => Eq.refl _⟩
          · intro a hT
            have hAp := hT.ag hA84 [(3, .pointer (some (⟨B_31, 0, none⟩ : Addr)))] ⟨rfl, trivial⟩ (by kernel_rfl)
            exact opk_val hAp rfl (r_fieldAddr (hAp.get rfl) Try.underlying42 rfl ti_3 (by decide)) fun _ _ e => ⟨_, e, rfl, fun _ => Eq.refl _⟩
          · intro a97 hT
            have hA97 := hT.ag hA84 [(1, .pointer (some (⟨B_2, 0, none⟩ : Addr))), (3, .pointer (some (⟨B_31, 0, none⟩ : Addr))), (18, .int .i64 o_1_Kind), (31, .bool (decide (o_1_Kind = 3)))] ⟨rfl, rfl, rfl, rfl, trivial⟩ (by kernel_rfl)
            have e98 : a97.tmps.getD 34 undef = .int .i64 o_1_Parent := hT.vals 1 rfl 34 rfl
            have hA99 := hA97.add e98
            have e100 : a97.tmps.getD 37 undef = .pointer (some (⟨B_31, 2, none⟩ : Addr)) := hT.vals 4 rfl 37 rfl
            have hA101 := hA99.add e100
            refine opk_storeF hA101 hB90 (r_store (vs := [.int .i64 o_1_Parent]) (hA101.get rfl) (hA101.get rfl) rfl ti_3 hB90 rfl (ones_all [.int .i64 o_1_Parent] rfl)) fun w102 hS104 hB105 hA103 => ⟨undef, Eq.refl _, ?_⟩
            have hB106 : Box w102 B_31 42 [.int .i64 o_1_Kind, .int .i64 o_1_ID, .int .i64 o_1_Parent, .int .i64 0, .int .i64 0, .string (Bs ([] : Str)), .string (Bs ([] : Str))] := hB105
            have hB107 := hB89.keep hS104 (by simpa using hne37)
            have hC108 : Chg [B_31] w87 w102 := hS104
            refine PRF_drop (X := [0, 1, 4]) (Fs' := [2, 3]) hA103 (by kernel_rfl) fun a109 hag110 hv111 => ?_
            have hA109 := hag110 [(1, .pointer (some (⟨B_2, 0, none⟩ : Addr))), (3, .pointer (some (⟨B_31, 0, none⟩ : Addr)))] ⟨rfl, rfl, trivial⟩ (by kernel_rfl)
            refine joinF hA109 (by kernel_rfl) ⟨fun _ _ _ _ h => by first | exact h | (change _ = _ at h; change _ = _; exact h), fun _ _ _ _ h => by first | exact h | (change _ = _ at h; change _ = _; exact h), trivial⟩ ⟨?_, ?_, trivial⟩ ?_
            · intro a w hT
              have hAp := hT.ag hA109 [(1, .pointer (some (⟨B_2, 0, none⟩ : Addr)))] ⟨rfl, trivial⟩ (by kernel_rfl)
              exact opk_val hAp rfl (r_fieldAddr (hAp.get rfl) Try.underlying42 rfl ti_3 (by decide)) fun _ _ e => ⟨_, e, Chg.refl _ _, fun _ => Eq.refl _⟩
            · intro a w hT
              have hAp := hT.ag hA109 [] trivial (by kernel_rfl)
              have e112 : a.tmps.getD 35 undef = .pointer (some (⟨B_2, 3, none⟩ : Addr)) := hT.vals 2 rfl 35 rfl
              have hAp := hAp.add e112
              exact opk_val hAp rfl (r_load1 Try.underlying3 rfl (hAp.get rfl) ((hB107.ext hT.chg).cell 3 _ rfl)) fun _ _ e => ⟨_, e, Chg.refl _ _, fun _ => Eq.refl _⟩
            · intro a113 w114 hE115 hag116 hv117
              have hA113 := hag116 [(1, .pointer (some (⟨B_2, 0, none⟩ : Addr))), (3, .pointer (some (⟨B_31, 0, none⟩ : Addr)))] ⟨rfl, rfl, trivial⟩ (by kernel_rfl)
              have e118 : a113.tmps.getD 36 undef = .int .i64 o_1_At := hv117 3 rfl 36 rfl
              have hA119 := hA113.add e118
              have hB120 := hB107.ext hE115
              have hB121 := hB106.ext hE115
              have hC122 := hC108.more hE115
              have ht123 := ht94 w114    hC122
              refine par (D := [[], [0], [], [2], [0, 1], [0, 1, 4], [0, 1, 2, 3, 4, 5], [0, 1, 2, 3, 4, 5, 6]]) (S := [6]) (F := []) (V := VL [(6, fun v _ => v = .pointer (some (⟨B_31, 3, none⟩ : Addr)))]) hA119 (by kernel_rfl) ⟨fun _ _ _ _ h => by first | exact h | (change _ = _ at h; change _ = _; exact h), trivial⟩ ⟨?_, trivial⟩ ?_
              · intro a w hT
                have hAp := hT.ag hA119 [(3, .pointer (some (⟨B_31, 0, none⟩ : Addr)))] ⟨rfl, trivial⟩ (by kernel_rfl)
                exact opk_val hAp rfl (r_fieldAddr (hAp.get rfl) Try.underlying42 rfl ti_3 (by decide)) fun _ _ e => ⟨_, e, Chg.refl _ _, fun _ => Eq.refl _⟩
              · intro a124 w125 hE126 hag127 hv128
                have hA124 := hag127 [(1, .pointer (some (⟨B_2, 0, none⟩ : Addr))), (3, .pointer (some (⟨B_31, 0, none⟩ : Addr))), (36, .int .i64 o_1_At)] ⟨rfl, rfl, rfl, trivial⟩ (by kernel_rfl)
                have e130 : a124.tmps.getD 38 undef = .pointer (some (⟨B_31, 3, none⟩ : Addr)) := hv128 6 rfl 38 rfl
                have hA131 := hA124.add e130
                have hB132 := hB120.ext hE126
                have hB133 := hB121.ext hE126
                have hC134 : Chg [] w114 w125 := hE126
                refine one (D := [[], [0], [], [2], [0, 1], [0, 1, 4], [0, 1, 2, 3, 4, 5], [0, 1, 2, 3, 4, 5, 6]]) (i := 7) rfl (by kernel_rfl) (opk_store hA131 hB133 (r_store (vs := [.int .i64 o_1_At]) (hA131.get rfl) (hA131.get rfl) rfl ti_3 hB133 rfl (ones_all [.int .i64 o_1_At] rfl)) fun a136 w135 hS137 hB138 hA136 => ?_)
                have hB139 : Box w135 B_31 42 [.int .i64 o_1_Kind, .int .i64 o_1_ID, .int .i64 o_1_Parent, .int .i64 o_1_At, .int .i64 0, .string (Bs ([] : Str)), .string (Bs ([] : Str))] := hB138
                have hB140 := hB132.keep hS137 (by simpa using hne37)
                have hC141 := hC134.storeOld hS137
                refine PR_end (by kernel_rfl) ?_
                have hA142 := hA136.keep [(1, .pointer (some (⟨B_2, 0, none⟩ : Addr))), (3, .pointer (some (⟨B_31, 0, none⟩ : Addr)))] ⟨rfl, rfl, trivial⟩
                refine block_normal ?_
                refine then_normal ?_
                refine wp_seq ?_
                refine wp_region_lit ?_
                refine sq (opk_val hA142 rfl (r_loadN (cs := [.int .i64 o_1_Kind, .int .i64 o_1_ID, .int .i64 o_1_Parent, .int .i64 o_1_At, .int .i64 0, .string (Bs ([] : Str)), .string (Bs ([] : Str))]) Try.underlying42 rfl ti_42 (hA142.get rfl) (hB139.part 0 _ rfl)) fun a143 hA143 _ => ?_)
                refine sq (opk_val hA143 rfl (r_loadN (cs := [.int .i64 o_1_Kind, .int .i64 o_1_ID, .int .i64 o_1_Parent, .int .i64 o_1_At, .int .i64 o_1_What, .string (Bs o_1_Name), .string (Bs o_1_Text)]) Try.underlying42 rfl ti_42 (hA143.get rfl) (hB140.part 0 _ rfl)) fun a144 hA144 _ => ?_)
                refine sq (opk_val hA144 rfl (r_aeql (hA144.get rfl) (hA144.get rfl) (eq_42 _ _ _ _ _ _ _ _ _ _ _ _ _ _)) fun a145 hA145 _ => ?_)
                refine sq (opk_val hA145 rfl (r_assign (hA145.get rfl)) fun a146 hA146 _ => ?_)
                refine sq_end ?_
                have hA147 := hA146.keep [(2, .bool (decide (o_1_Kind = o_1_Kind ∧ o_1_ID = o_1_ID ∧ o_1_Parent = o_1_Parent ∧ o_1_At = o_1_At ∧ 0 = o_1_What ∧ ([] : Str) = o_1_Name ∧ ([] : Str) = o_1_Text)))] ⟨rfl, trivial⟩
                refine then_normal ?_
                refine wp_ret ?_
                have ht148 := ht123 w135    hC141
                exact res_all (vs := [.bool (decide (o_1_Kind = o_1_Kind ∧ o_1_ID = o_1_ID ∧ o_1_Parent = o_1_Parent ∧ o_1_At = o_1_At ∧ 0 = o_1_What ∧ ([] : Str) = o_1_Name ∧ ([] : Str) = o_1_Text))]) rfl hA147 ⟨res_of_tmp hA147 rfl, trivial⟩ ht148
        · have ht86 := ht75.2 (of_decide_eq_false hc)
          clear hc
          refine wp_seq ?_
          refine wp_region_lit ?_
          refine sq (opk_val hA84 rfl (r_eql (hA84.get rfl) rfl) fun a149 hA149 _ => ?_)
          refine sq (opk_val hA149 rfl (r_assign (hA149.get rfl)) fun a150 hA150 _ => ?_)
          refine sq_end ?_
          have hA151 := hA150.keep [(1, .pointer (some (⟨B_2, 0, none⟩ : Addr))), (3, .pointer (some (⟨B_31, 0, none⟩ : Addr))), (18, .int .i64 o_1_Kind), (39, .bool (decide (o_1_Kind = 4)))] ⟨rfl, rfl, rfl, rfl, trivial⟩
          refine then_normal ?_
          refine wp_cond_split (hA151.get rfl) (fun hc => ?_) (fun hc => ?_)
          · have ht152 := ht86.1 (of_decide_eq_true hc)
            clear hc
            refine draw' (by kernel_rfl) fun w154 hE155 => ?_
            have hB156 := hB47.ext hE155
            have hB157 := hB46.ext hE155
            have hC158 := hC48.more hE155
            have hN159 := hN49.up hE155.size
            have hN160 := hN50.up hE155.size
            have ht161 := ht152 w154 B_2 B_31 hN159 hN160 hne37 hC158
            refine startF (D := [[], [0], [], [2], [0, 1], [0, 1, 4], [0, 1, 2, 3, 4, 5], [0, 1, 2, 3, 4, 5, 6]]) (Fs := [0, 1, 2, 3, 4]) (Ef := [(0, fun v _ => v = .pointer (some (⟨B_2, 5, none⟩ : Addr))), (1, fun v _ => v = .string (Bs o_1_Name)), (2, fun v _ => v = .pointer (some (⟨B_2, 6, none⟩ : Addr))), (3, fun v _ => v = .string (Bs o_1_Text)), (4, fun v _ => v = .pointer (some (⟨B_31, 5, none⟩ : Addr)))]) (by kernel_rfl) ?_
            refine oneF (c := 5) hA151 rfl (by kernel_rfl) (constF ⟨fun _ _ _ h => by first | exact h | (change _ = _ at h; change _ = _; exact h), fun _ _ _ h => by first | exact h | (change _ = _ at h; change _ = _; exact h), fun _ _ _ h => by first | exact h | (change _ = _ at h; change _ = _; exact h), fun _ _ _ h => by first | exact h | (change _ = _ at h; change _ = _; exact h), fun _ _ _ h => by first | exact h | (change _ = _ at h; change _ = _; exact h), trivial⟩) ⟨?_, ?_, ?_, ?_, ?_, trivial⟩ ?_
            · intro a hT
              have hAp := hT.ag hA151 [(1, .pointer (some (⟨B_2, 0, none⟩ : Addr)))] ⟨rfl, trivial⟩ (by kernel_rfl)
              exact opk_val hAp rfl (r_fieldAddr (hAp.get rfl) Try.underlying42 rfl ti_9 (by decide)) fun _ _ e => ⟨_, e, rfl, fun _ => Eq.refl _⟩
            · intro a hT
              have hAp := hT.ag hA151 [] trivial (by kernel_rfl)
              have e162 : a.tmps.getD 41 undef = .pointer (some (⟨B_2, 5, none⟩ : Addr)) := hT.vals 0 rfl 41 rfl
              have hAp := hAp.add e162
              exact opk_val hAp rfl (r_load1 Try.underlying9 rfl (hAp.get rfl) ((hB156.ext hT.chg).cell 5 _ rfl)) fun _ _ e => ⟨_, e, rfl, fun _ => Eq.refl _⟩
            · intro a hT
              have hAp := hT.ag hA151 [(1, .pointer (some (⟨B_2, 0, none⟩ : Addr)))] ⟨rfl, trivial⟩ (by kernel_rfl)
              exact opk_val hAp rfl (r_fieldAddr (hAp.get rfl) Try.underlying42 rfl ti_9 (by decide)) fun _ _ e => ⟨_, e, rfl, fun _ => Eq.refl _⟩
            · intro a hT
              have hAp := hT.ag hA151 [] trivial (by kernel_rfl)
              have e163 : a.tmps.getD 43 undef = .pointer (some (⟨B_2, 6, none⟩ : Addr)) := hT.vals 2 rfl 43 rfl
              have hAp := hAp.add e163
              exact opk_val hAp rfl (r_load1 Try.underlying9 rfl (hAp.get rfl) ((hB156.ext hT.chg).cell 6 _ rfl)) fun _ _ e => ⟨_, e, rfl, fun _ => Eq.refl _⟩
            · intro a hT
              have hAp := hT.ag hA151 [(3, .pointer (some (⟨B_31, 0, none⟩ : Addr)))] ⟨rfl, trivial⟩ (by kernel_rfl)
              exact opk_val hAp rfl (r_fieldAddr (hAp.get rfl) Try.underlying42 rfl ti_9 (by decide)) fun _ _ e => ⟨_, e, rfl, fun _ => Eq.refl _⟩
            · intro a164 hT
              have hA164 := hT.ag hA151 [(1, .pointer (some (⟨B_2, 0, none⟩ : Addr))), (3, .pointer (some (⟨B_31, 0, none⟩ : Addr))), (18, .int .i64 o_1_Kind), (39, .bool (decide (o_1_Kind = 4)))] ⟨rfl, rfl, rfl, rfl, trivial⟩ (by kernel_rfl)
              have e165 : a164.tmps.getD 42 undef = .string (Bs o_1_Name) := hT.vals 1 rfl 42 rfl
              have hA166 := hA164.add e165
              have e167 : a164.tmps.getD 45 undef = .pointer (some (⟨B_31, 5, none⟩ : Addr)) := hT.vals 4 rfl 45 rfl
              have hA168 := hA166.add e167
              refine opk_storeF hA168 hB157 (r_store (vs := [.string (Bs o_1_Name)]) (hA168.get rfl) (hA168.get rfl) rfl ti_9 hB157 rfl (ones_all [.string (Bs o_1_Name)] rfl)) fun w169 hS171 hB172 hA170 => ⟨undef, Eq.refl _, ?_⟩
              have hB173 : Box w169 B_31 42 [.int .i64 o_1_Kind, .int .i64 o_1_ID, .int .i64 0, .int .i64 0, .int .i64 0, .string (Bs o_1_Name), .string (Bs ([] : Str))] := hB172
              have hB174 := hB156.keep hS171 (by simpa using hne37)
              have hC175 : Chg [B_31] w154 w169 := hS171
              refine PRF_drop (X := [0, 1, 4]) (Fs' := [2, 3]) hA170 (by kernel_rfl) fun a176 hag177 hv178 => ?_
              have hA176 := hag177 [(1, .pointer (some (⟨B_2, 0, none⟩ : Addr))), (3, .pointer (some (⟨B_31, 0, none⟩ : Addr)))] ⟨rfl, rfl, trivial⟩ (by kernel_rfl)
              refine joinF hA176 (by kernel_rfl) ⟨fun _ _ _ _ h => by first | exact h | (change _ = _ at h; change _ = _; exact h), fun _ _ _ _ h => by first | exact h | (change _ = _ at h; change _ = _; exact h), trivial⟩ ⟨?_, ?_, trivial⟩ ?_
              · intro a w hT
                have hAp := hT.ag hA176 [(1, .pointer (some (⟨B_2, 0, none⟩ : Addr)))] ⟨rfl, trivial⟩ (by kernel_rfl)
                exact opk_val hAp rfl (r_fieldAddr (hAp.get rfl) Try.underlying42 rfl ti_9 (by decide)) fun _ _ e => ⟨_, e, Chg.refl _ _, fun _ => Eq.refl _⟩
              · intro a w hT
                have hAp := hT.ag hA176 [] trivial (by kernel_rfl)
                have e179 : a.tmps.getD 43 undef = .pointer (some (⟨B_2, 6, none⟩ : Addr)) := hT.vals 2 rfl 43 rfl
                have hAp := hAp.add e179
                exact opk_val hAp rfl (r_load1 Try.underlying9 rfl (hAp.get rfl) ((hB174.ext hT.chg).cell 6 _ rfl)) fun _ _ e => ⟨_, e, Chg.refl _ _, fun _ => Eq.refl _⟩
              · intro a180 w181 hE182 hag183 hv184
                have hA180 := hag183 [(1, .pointer (some (⟨B_2, 0, none⟩ : Addr))), (3, .pointer (some (⟨B_31, 0, none⟩ : Addr)))] ⟨rfl, rfl, trivial⟩ (by kernel_rfl)
                have e185 : a180.tmps.getD 44 undef = .string (Bs o_1_Text) := hv184 3 rfl 44 rfl
                have hA186 := hA180.add e185
                have hB187 := hB174.ext hE182
                have hB188 := hB173.ext hE182
                have hC189 := hC175.more hE182
                have ht190 := ht161 w181    hC189
                refine par (D := [[], [0], [], [2], [0, 1], [0, 1, 4], [0, 1, 2, 3, 4, 5], [0, 1, 2, 3, 4, 5, 6]]) (S := [6]) (F := []) (V := VL [(6, fun v _ => v = .pointer (some (⟨B_31, 6, none⟩ : Addr)))]) hA186 (by kernel_rfl) ⟨fun _ _ _ _ h => by first | exact h | (change _ = _ at h; change _ = _; exact h), trivial⟩ ⟨?_, trivial⟩ ?_
                · intro a w hT
                  have hAp := hT.ag hA186 [(3, .pointer (some (⟨B_31, 0, none⟩ : Addr)))] ⟨rfl, trivial⟩ (by kernel_rfl)
                  exact opk_val hAp rfl (r_fieldAddr (hAp.get rfl) Try.underlying42 rfl ti_9 (by decide)) fun _ _ e => ⟨_, e, Chg.refl _ _, fun _ => Eq.refl _⟩
                · intro a191 w192 hE193 hag194 hv195
                  have hA191 := hag194 [(1, .pointer (some (⟨B_2, 0, none⟩ : Addr))), (3, .pointer (some (⟨B_31, 0, none⟩ : Addr))), (44, .string (Bs o_1_Text))] ⟨rfl, rfl, rfl, trivial⟩ (by kernel_rfl)
                  have e197 : a191.tmps.getD 46 undef = .pointer (some (⟨B_31, 6, none⟩ : Addr)) := hv195 6 rfl 46 rfl
                  have hA198 := hA191.add e197
                  have hB199 := hB187.ext hE193
                  have hB200 := hB188.ext hE193
                  have hC201 : Chg [] w181 w192 := hE193
                  refine one (D := [[], [0], [], [2], [0, 1], [0, 1, 4], [0, 1, 2, 3, 4, 5], [0, 1, 2, 3, 4, 5, 6]]) (i := 7) rfl (by kernel_rfl) (opk_store hA198 hB200 (r_store (vs := [.string (Bs o_1_Text)]) (hA198.get rfl) (hA198.get rfl) rfl ti_9 hB200 rfl (ones_all [.string (Bs o_1_Text)] rfl)) fun a203 w202 hS204 hB205 hA203 => ?_)
                  have hB206 : Box w202 B_31 42 [.int .i64 o_1_Kind, .int .i64 o_1_ID, .int .i64 0, .int .i64 0, .int .i64 0, .string (Bs o_1_Name), .string (Bs o_1_Text)] := hB205
                  have hB207 := hB199.keep hS204 (by simpa using hne37)
                  have hC208 := hC201.storeOld hS204
                  refine PR_end (by kernel_rfl) ?_
                  have hA209 := hA203.keep [(1, .pointer (some (⟨B_2, 0, none⟩ : Addr))), (3, .pointer (some (⟨B_31, 0, none⟩ : Addr)))] ⟨rfl, rfl, trivial⟩
                  refine block_normal ?_
                  refine then_normal ?_
                  refine wp_seq ?_
                  refine wp_region_lit ?_
                  refine sq (opk_val hA209 rfl (r_loadN (cs := [.int .i64 o_1_Kind, .int .i64 o_1_ID, .int .i64 0, .int .i64 0, .int .i64 0, .string (Bs o_1_Name), .string (Bs o_1_Text)]) Try.underlying42 rfl ti_42 (hA209.get rfl) (hB206.part 0 _ rfl)) fun a210 hA210 _ => ?_)
                  refine sq (opk_val hA210 rfl (r_loadN (cs := [.int .i64 o_1_Kind, .int .i64 o_1_ID, .int .i64 o_1_Parent, .int .i64 o_1_At, .int .i64 o_1_What, .string (Bs o_1_Name), .string (Bs o_1_Text)]) Try.underlying42 rfl ti_42 (hA210.get rfl) (hB207.part 0 _ rfl)) fun a211 hA211 _ => ?_)
                  refine sq (opk_val hA211 rfl (r_aeql (hA211.get rfl) (hA211.get rfl) (eq_42 _ _ _ _ _ _ _ _ _ _ _ _ _ _)) fun a212 hA212 _ => ?_)
                  refine sq (opk_val hA212 rfl (r_assign (hA212.get rfl)) fun a213 hA213 _ => ?_)
                  refine sq_end ?_
                  have hA214 := hA213.keep [(2, .bool (decide (o_1_Kind = o_1_Kind ∧ o_1_ID = o_1_ID ∧ 0 = o_1_Parent ∧ 0 = o_1_At ∧ 0 = o_1_What ∧ o_1_Name = o_1_Name ∧ o_1_Text = o_1_Text)))] ⟨rfl, trivial⟩
                  refine then_normal ?_
                  refine wp_ret ?_
                  have ht215 := ht190 w202    hC208
                  exact res_all (vs := [.bool (decide (o_1_Kind = o_1_Kind ∧ o_1_ID = o_1_ID ∧ 0 = o_1_Parent ∧ 0 = o_1_At ∧ 0 = o_1_What ∧ o_1_Name = o_1_Name ∧ o_1_Text = o_1_Text))]) rfl hA214 ⟨res_of_tmp hA214 rfl, trivial⟩ ht215
          · have ht153 := ht86.2 (of_decide_eq_false hc)
            clear hc
            refine wp_seq ?_
            refine wp_region_lit ?_
            refine sq (opk_val hA151 rfl (r_eql (hA151.get rfl) rfl) fun a216 hA216 _ => ?_)
            refine sq (opk_val hA216 rfl (r_assign (hA216.get rfl)) fun a217 hA217 _ => ?_)
            refine sq_end ?_
            have hA218 := hA217.keep [(1, .pointer (some (⟨B_2, 0, none⟩ : Addr))), (3, .pointer (some (⟨B_31, 0, none⟩ : Addr))), (18, .int .i64 o_1_Kind), (47, .bool (decide (o_1_Kind = 5)))] ⟨rfl, rfl, rfl, rfl, trivial⟩
            refine then_normal ?_
            refine wp_cond_split (hA218.get rfl) (fun hc => ?_) (fun hc => ?_)
            · have ht219 := ht153.1 (of_decide_eq_true hc)
              clear hc
              refine wp_region_lit ?_
              refine sq (opk_val hA218 rfl (r_fieldAddr (hA218.get rfl) Try.underlying42 rfl ti_9 (by decide)) fun a221 hA221 _ => ?_)
              refine sq (opk_val hA221 rfl (r_load1 Try.underlying9 rfl (hA221.get rfl) (hB47.cell 5 _ rfl)) fun a222 hA222 _ => ?_)
              refine sq (opk_val hA222 rfl (r_fieldAddr (hA222.get rfl) Try.underlying42 rfl ti_9 (by decide)) fun a223 hA223 _ => ?_)
              refine sq (opk_store hA223 hB46 (r_store (vs := [.string (Bs o_1_Name)]) (hA223.get rfl) (hA223.get rfl) rfl ti_9 hB46 rfl (ones_all [.string (Bs o_1_Name)] rfl)) fun a225 w224 hS226 hB227 hA225 => ?_)
              have hB228 : Box w224 B_31 42 [.int .i64 o_1_Kind, .int .i64 o_1_ID, .int .i64 0, .int .i64 0, .int .i64 0, .string (Bs o_1_Name), .string (Bs ([] : Str))] := hB227
              have hB229 := hB47.keep hS226 (by simpa using hne37)
              have hC230 := hC48.storeNew hN50 hS226
              have hN231 := hN49.up hS226.size
              have hN232 := hN50.up hS226.size
              refine sq_end ?_
              have hA233 := hA225.keep [(1, .pointer (some (⟨B_2, 0, none⟩ : Addr))), (3, .pointer (some (⟨B_31, 0, none⟩ : Addr)))] ⟨rfl, rfl, trivial⟩
              refine block_normal ?_
              refine then_normal ?_
              refine wp_seq ?_
              refine wp_region_lit ?_
              refine sq (opk_val hA233 rfl (r_loadN (cs := [.int .i64 o_1_Kind, .int .i64 o_1_ID, .int .i64 0, .int .i64 0, .int .i64 0, .string (Bs o_1_Name), .string (Bs ([] : Str))]) Try.underlying42 rfl ti_42 (hA233.get rfl) (hB228.part 0 _ rfl)) fun a234 hA234 _ => ?_)
              refine sq (opk_val hA234 rfl (r_loadN (cs := [.int .i64 o_1_Kind, .int .i64 o_1_ID, .int .i64 o_1_Parent, .int .i64 o_1_At, .int .i64 o_1_What, .string (Bs o_1_Name), .string (Bs o_1_Text)]) Try.underlying42 rfl ti_42 (hA234.get rfl) (hB229.part 0 _ rfl)) fun a235 hA235 _ => ?_)
              refine sq (opk_val hA235 rfl (r_aeql (hA235.get rfl) (hA235.get rfl) (eq_42 _ _ _ _ _ _ _ _ _ _ _ _ _ _)) fun a236 hA236 _ => ?_)
              refine sq (opk_val hA236 rfl (r_assign (hA236.get rfl)) fun a237 hA237 _ => ?_)
              refine sq_end ?_
              have hA238 := hA237.keep [(2, .bool (decide (o_1_Kind = o_1_Kind ∧ o_1_ID = o_1_ID ∧ 0 = o_1_Parent ∧ 0 = o_1_At ∧ 0 = o_1_What ∧ o_1_Name = o_1_Name ∧ ([] : Str) = o_1_Text)))] ⟨rfl, trivial⟩
              refine then_normal ?_
              refine wp_ret ?_
              have ht239 := ht219 w224 B_2 B_31 hN231 hN232 hne37 hC230
              exact res_all (vs := [.bool (decide (o_1_Kind = o_1_Kind ∧ o_1_ID = o_1_ID ∧ 0 = o_1_Parent ∧ 0 = o_1_At ∧ 0 = o_1_What ∧ o_1_Name = o_1_Name ∧ ([] : Str) = o_1_Text))]) rfl hA238 ⟨res_of_tmp hA238 rfl, trivial⟩ ht239
            · have ht220 := ht153.2 (of_decide_eq_false hc)
              clear hc
              refine wp_seq ?_
              refine wp_region_lit ?_
              refine sq (opk_val hA218 rfl (r_eql (hA218.get rfl) rfl) fun a240 hA240 _ => ?_)
              refine sq (opk_val hA240 rfl (r_assign (hA240.get rfl)) fun a241 hA241 _ => ?_)
              refine sq_end ?_
              have hA242 := hA241.keep [(1, .pointer (some (⟨B_2, 0, none⟩ : Addr))), (3, .pointer (some (⟨B_31, 0, none⟩ : Addr))), (52, .bool (decide (o_1_Kind = 6)))] ⟨rfl, rfl, rfl, trivial⟩
              refine then_normal ?_
              refine wp_cond_split (hA242.get rfl) (fun hc => ?_) (fun hc => ?_)
              · have ht243 := ht220.1 (of_decide_eq_true hc)
                clear hc
                refine wp_region_lit ?_
                refine sq (opk_val hA242 rfl (r_fieldAddr (hA242.get rfl) Try.underlying42 rfl ti_9 (by decide)) fun a245 hA245 _ => ?_)
                refine sq (opk_val hA245 rfl (r_load1 Try.underlying9 rfl (hA245.get rfl) (hB47.cell 6 _ rfl)) fun a246 hA246 _ => ?_)
                refine sq (opk_val hA246 rfl (r_fieldAddr (hA246.get rfl) Try.underlying42 rfl ti_9 (by decide)) fun a247 hA247 _ => ?_)
                refine sq (opk_store hA247 hB46 (r_store (vs := [.string (Bs o_1_Text)]) (hA247.get rfl) (hA247.get rfl) rfl ti_9 hB46 rfl (ones_all [.string (Bs o_1_Text)] rfl)) fun a249 w248 hS250 hB251 hA249 => ?_)
                have hB252 : Box w248 B_31 42 [.int .i64 o_1_Kind, .int .i64 o_1_ID, .int .i64 0, .int .i64 0, .int .i64 0, .string (Bs ([] : Str)), .string (Bs o_1_Text)] := hB251
                have hB253 := hB47.keep hS250 (by simpa using hne37)
                have hC254 := hC48.storeNew hN50 hS250
                have hN255 := hN49.up hS250.size
                have hN256 := hN50.up hS250.size
                refine sq_end ?_
                have hA257 := hA249.keep [(1, .pointer (some (⟨B_2, 0, none⟩ : Addr))), (3, .pointer (some (⟨B_31, 0, none⟩ : Addr)))] ⟨rfl, rfl, trivial⟩
                refine block_normal ?_
                refine then_normal ?_
                refine wp_seq ?_
                refine wp_region_lit ?_
                refine sq (opk_val hA257 rfl (r_loadN (cs := [.int .i64 o_1_Kind, .int .i64 o_1_ID, .int .i64 0, .int .i64 0, .int .i64 0, .string (Bs ([] : Str)), .string (Bs o_1_Text)]) Try.underlying42 rfl ti_42 (hA257.get rfl) (hB252.part 0 _ rfl)) fun a258 hA258 _ => ?_)
                refine sq (opk_val hA258 rfl (r_loadN (cs := [.int .i64 o_1_Kind, .int .i64 o_1_ID, .int .i64 o_1_Parent, .int .i64 o_1_At, .int .i64 o_1_What, .string (Bs o_1_Name), .string (Bs o_1_Text)]) Try.underlying42 rfl ti_42 (hA258.get rfl) (hB253.part 0 _ rfl)) fun a259 hA259 _ => ?_)
                refine sq (opk_val hA259 rfl (r_aeql (hA259.get rfl) (hA259.get rfl) (eq_42 _ _ _ _ _ _ _ _ _ _ _ _ _ _)) fun a260 hA260 _ => ?_)
                refine sq (opk_val hA260 rfl (r_assign (hA260.get rfl)) fun a261 hA261 _ => ?_)
                refine sq_end ?_
                have hA262 := hA261.keep [(2, .bool (decide (o_1_Kind = o_1_Kind ∧ o_1_ID = o_1_ID ∧ 0 = o_1_Parent ∧ 0 = o_1_At ∧ 0 = o_1_What ∧ ([] : Str) = o_1_Name ∧ o_1_Text = o_1_Text)))] ⟨rfl, trivial⟩
                refine then_normal ?_
                refine wp_ret ?_
                have ht263 := ht243 w248 B_2 B_31 hN255 hN256 hne37 hC254
                exact res_all (vs := [.bool (decide (o_1_Kind = o_1_Kind ∧ o_1_ID = o_1_ID ∧ 0 = o_1_Parent ∧ 0 = o_1_At ∧ 0 = o_1_What ∧ ([] : Str) = o_1_Name ∧ o_1_Text = o_1_Text))]) rfl hA262 ⟨res_of_tmp hA262 rfl, trivial⟩ ht263
              · have ht244 := ht220.2 (of_decide_eq_false hc)
                clear hc
                refine wp_seq ?_
                refine wp_region_lit ?_
                refine sq (opk_val hA242 rfl (r_assign rfl) fun a264 hA264 _ => ?_)
                refine sq_end ?_
                have hA265 := hA264.keep [(2, .bool false)] ⟨rfl, trivial⟩
                refine then_normal ?_
                refine wp_ret ?_
                refine block_ret ?_
                refine then_ret ?_
                have ht266 := ht244 w42 B_2 B_31 hN49 hN50 hne37 hC48
                exact res_all (vs := [.bool false]) rfl hA265 ⟨res_of_tmp hA265 rfl, trivial⟩ ht266

end Go.Proofs.Yteacalmdpoblpaa
