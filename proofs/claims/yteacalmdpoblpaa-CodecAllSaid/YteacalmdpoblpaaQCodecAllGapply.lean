/-
  PRINTED BY PROGRAM: for each function its condition (vc), and that this suffices (ok).
-/
import Derived.Test.YteacalmdpoblpaaQCodecAllGT
namespace Go.Proofs.Yteacalmdpoblpaa
open Go.RowKit
set_option linter.unusedVariables false

/-- The condition of topiary/apply.Right. -/
def apply_Right.vc (o_1_Kind : Int) (o_1_ID : Int) (o_1_Parent : Int) (o_1_At : Int) (o_1_What : Int) (o_1_Name : Str) (o_1_Text : Str) (R : Value → World → Prop) (w : World) : Prop :=
∀ (w3 : World) (B_2 : Nat), New w B_2 w3 → Chg [] w w3 →
CallK Try.prog 41 #[] w3 [B_2] (fun v w15 => v = .agg #[.nilFunc, .nilFunc, .func (.func 51) #[] #[], .func (.func 53) #[] #[], .func (.func 54) #[] #[], .func (.func 56) #[] #[], .func (.func 57) #[] #[], .func (.func 59) #[] #[], .func (.func 60) #[] #[], .func (.func 62) #[] #[], .func (.func 63) #[] #[], .func (.func 65) #[] #[], .func (.func 66) #[] #[], .func (.func 68) #[] #[]] ∧
(((((o_1_Kind < 1) ∨ (6 < o_1_Kind)) ∨ (o_1_ID < 0)) ∨ (1048576 < o_1_ID)) →
∀ (w32 : World) (B_22 : Nat), New w15 B_22 w32 → Chg [] w15 w32 →
R (.bool false) w32) ∧
(((((¬ (o_1_Kind < 1)) ∧ (¬ (6 < o_1_Kind))) ∧ (¬ (o_1_ID < 0))) ∧ (¬ (1048576 < o_1_ID))) →
((o_1_Kind = 1) →
∀ (w32 : World) (B_22 : Nat), New w15 B_22 w32 → Chg [] w15 w32 →
R (.bool ((decide (1 ≤ o_1_What)) && (decide (o_1_What ≤ 5)))) w32) ∧
((¬ (o_1_Kind = 1)) →
∀ (w82 : World) (B_22 : Nat), New w15 B_22 w82 → Chg [] w15 w82 →
((0 : Int) ≤ o_1_Kind ∧ o_1_Kind < 7) ∧
∃ (f_97 : FuncId) (fst_98 cap_99 : Array Value), ((([.nilFunc, .nilFunc, .func (.func 51) #[] #[], .func (.func 53) #[] #[], .func (.func 54) #[] #[], .func (.func 56) #[] #[], .func (.func 57) #[] #[], .func (.func 59) #[] #[], .func (.func 60) #[] #[], .func (.func 62) #[] #[], .func (.func 63) #[] #[], .func (.func 65) #[] #[], .func (.func 66) #[] #[], .func (.func 68) #[] #[]] : List Value).getD (o_1_Kind.toNat * 2 + 1) .nilFunc) = .func (.func f_97) fst_98 cap_99) ∧
Body Try.prog f_97 ∧
∃ V_104 : Int → Int → Int → Int → Int → Str → Str → World → Prop, (∀ r_103_Kind : Int, ∀ r_103_ID : Int, ∀ r_103_Parent : Int, ∀ r_103_At : Int, ∀ r_103_What : Int, ∀ r_103_Name : Str, ∀ r_103_Text : Str, ∀ w' w'' : World, Ext w' w'' → V_104 r_103_Kind r_103_ID r_103_Parent r_103_At r_103_What r_103_Name r_103_Text w' → V_104 r_103_Kind r_103_ID r_103_Parent r_103_At r_103_What r_103_Name r_103_Text w'') ∧
(∀ w' : World, Ext w82 w' → Calls Try.prog f_97 (fst_98 ++ #[.agg #[.int .i64 o_1_Kind, .int .i64 o_1_ID, .int .i64 o_1_Parent, .int .i64 o_1_At, .int .i64 o_1_What, .string (Bs o_1_Name), .string (Bs o_1_Text)]] ++ cap_99) w' (Ret fun v w'' => Ext w' w'' ∧ ∃ r_103_Kind : Int, ∃ r_103_ID : Int, ∃ r_103_Parent : Int, ∃ r_103_At : Int, ∃ r_103_What : Int, ∃ r_103_Name : Str, ∃ r_103_Text : Str, v = .agg #[.int .i64 r_103_Kind, .int .i64 r_103_ID, .int .i64 r_103_Parent, .int .i64 r_103_At, .int .i64 r_103_What, .string (Bs r_103_Name), .string (Bs r_103_Text)] ∧ V_104 r_103_Kind r_103_ID r_103_Parent r_103_At r_103_What r_103_Name r_103_Text w'')) ∧
∀ (w114 : World) (r_103_Kind : Int) (r_103_ID : Int) (r_103_Parent : Int) (r_103_At : Int) (r_103_What : Int) (r_103_Name : Str) (r_103_Text : Str) (B_108 : Nat), Ext w82 w114 → V_104 r_103_Kind r_103_ID r_103_Parent r_103_At r_103_What r_103_Name r_103_Text w114 → w82.heap.size ≤ B_108 → Box w114 B_108 42 [.int .i64 0, .int .i64 0, .int .i64 0, .int .i64 0, .int .i64 0, .string (Bs ([] : Str)), .string (Bs ([] : Str))] → 
∀ (w132 : World), Chg [B_108] w114 w132 →
R (.bool (((((decide (o_1_Parent = r_103_Parent)) && (decide (o_1_At = r_103_At))) && (decide (o_1_What = 0))) && (decide (o_1_Name = r_103_Name))) && (decide (o_1_Text = r_103_Text)))) w132)))
set_option maxHeartbeats 1000000 in
set_option maxRecDepth 10000 in
theorem apply_Right.ok (o_1_Kind : Int) (o_1_ID : Int) (o_1_Parent : Int) (o_1_At : Int) (o_1_What : Int) (o_1_Name : Str) (o_1_Text : Str) {R : Value → World → Prop} {w : World} (ht0 : apply_Right.vc o_1_Kind o_1_ID o_1_Parent o_1_At o_1_What o_1_Name o_1_Text R w) : Calls Try.prog 20 #[.agg #[.int .i64 o_1_Kind, .int .i64 o_1_ID, .int .i64 o_1_Parent, .int .i64 o_1_At, .int .i64 o_1_What, .string (Bs o_1_Name), .string (Bs o_1_Text)]] w (Ret R) := by
  refine enter [.agg #[.int .i64 o_1_Kind, .int .i64 o_1_ID, .int .i64 o_1_Parent, .int .i64 o_1_At, .int .i64 o_1_What, .string (Bs o_1_Name), .string (Bs o_1_Text)]] Try.func20 rfl Try.ntmps20 rfl ?_
  intro a0 hA0
  unfold apply_Right.vc at ht0
  refine wp_seq ?_
  refine wp_region_lit ?_
  refine sq (opk_new (fun B => .pointer (some ⟨B, 0, none⟩)) hA0 rfl (r_box (cs := [.int .i64 o_1_Kind, .int .i64 o_1_ID, .int .i64 o_1_Parent, .int .i64 o_1_At, .int .i64 o_1_What, .string (Bs o_1_Name), .string (Bs o_1_Text)]) (hA0.get rfl) rfl) fun a4 w3 B_2 hE5 hN6 hB7 hA4 _ => ?_)
  have hN8 : New w B_2 w3 := hN6
  have hC9 : Chg [] w w3 := hE5
  refine sq (opk_val hA4 rfl (r_assign rfl) fun a10 hA10 _ => ?_)
  refine sq_end ?_
  have hA11 := hA10.keep [(1, .pointer (some (⟨B_2, 0, none⟩ : Addr)))] ⟨rfl, trivial⟩
  refine then_normal ?_
  refine wp_seq ?_
  refine wp_region_lit ?_
  have ht12 := ht0 w3 B_2 hN8  hC9
  refine sq (opk_call hA11 rfl (r_call (args := #[]) Try.func41 (by decide) rfl (map_arr ml_nil) rfl) ht12 fun a14 v20 w15 hA14 _ hn17 hz18 hK19 => ?_)
  obtain ⟨rfl, ht16⟩ := hK19
  have hB21 := hB7.kept hn17 (.head _)
  refine sq (opk_new (fun B => .pointer (some ⟨B, 0, none⟩)) hA14 rfl (r_alloc (cs := [.nilFunc, .nilFunc, .nilFunc, .nilFunc, .nilFunc, .nilFunc, .nilFunc, .nilFunc, .nilFunc, .nilFunc, .nilFunc, .nilFunc, .nilFunc, .nilFunc]) ti_79 rfl) fun a24 w23 B_22 hE25 hN26 hB27 hA24 _ => ?_)
  have hne28 : B_2 ≠ B_22 := Nat.ne_of_lt (Nat.lt_of_lt_of_le hB21.lt hN26.ge)
  have hN29 : New w15 B_22 w23 := hN26
  have hB30 := hB21.ext hE25
  have hC31 : Chg [] w15 w23 := hE25
  refine sq (opk_store hA24 hB27 (r_store (vs := [.nilFunc, .nilFunc, .func (.func 51) #[] #[], .func (.func 53) #[] #[], .func (.func 54) #[] #[], .func (.func 56) #[] #[], .func (.func 57) #[] #[], .func (.func 59) #[] #[], .func (.func 60) #[] #[], .func (.func 62) #[] #[], .func (.func 63) #[] #[], .func (.func 65) #[] #[], .func (.func 66) #[] #[], .func (.func 68) #[] #[]]) (hA24.get rfl) (hA24.get rfl) rfl ti_79 hB27 rfl (ones_all [.nilFunc, .nilFunc, .func (.func 51) #[] #[], .func (.func 53) #[] #[], .func (.func 54) #[] #[], .func (.func 56) #[] #[], .func (.func 57) #[] #[], .func (.func 59) #[] #[], .func (.func 60) #[] #[], .func (.func 62) #[] #[], .func (.func 63) #[] #[], .func (.func 65) #[] #[], .func (.func 66) #[] #[], .func (.func 68) #[] #[]] rfl)) fun a33 w32 hS34 hB35 hA33 => ?_)
  have hB36 : Box w32 B_22 79 [.nilFunc, .nilFunc, .func (.func 51) #[] #[], .func (.func 53) #[] #[], .func (.func 54) #[] #[], .func (.func 56) #[] #[], .func (.func 57) #[] #[], .func (.func 59) #[] #[], .func (.func 60) #[] #[], .func (.func 62) #[] #[], .func (.func 63) #[] #[], .func (.func 65) #[] #[], .func (.func 66) #[] #[], .func (.func 68) #[] #[]] := hB35
  have hB37 := hB30.keep hS34 (by simpa using hne28)
  have hC38 := hC31.storeNew hN29 hS34
  have hN39 := hN29.up hS34.size
  refine sq_end ?_
  have hA40 := hA33.keep [(1, .pointer (some (⟨B_2, 0, none⟩ : Addr))), (3, .pointer (some (⟨B_22, 0, none⟩ : Addr)))] ⟨rfl, rfl, trivial⟩
  refine then_normal ?_
  refine wp_seq ?_
  refine wp_seq ?_
  refine wp_region_lit ?_
  refine sq (opk_val hA40 rfl (r_fieldAddr (hA40.get rfl) Try.underlying42 rfl ti_3 (by decide)) fun a41 hA41 _ => ?_)
  refine sq (opk_val hA41 rfl (r_load1 Try.underlying3 rfl (hA41.get rfl) (hB37.cell 0 _ rfl)) fun a42 hA42 _ => ?_)
  refine sq (opk_val hA42 rfl (r_lss (hA42.get rfl) rfl) fun a43 hA43 _ => ?_)
  refine sq (opk_val hA43 rfl (r_move (hA43.get rfl)) fun a44 hA44 _ => ?_)
  refine sq (opk_gval hA44 rfl rfl (g := true) (e := (decide (o_1_Kind < 1))) rfl (fun hg => r_fieldAddr (hA44.get rfl) Try.underlying42 rfl ti_3 (by decide)) fun a45 hA45 _ => ?_)
  refine sq (opk_gval hA45 rfl rfl (g := true) (e := (decide (o_1_Kind < 1))) rfl (fun hg => r_load1 Try.underlying3 rfl (cv_get (hA45.get rfl) hg) (hB37.cell 0 _ rfl)) fun a46 hA46 _ => ?_)
  refine sq (opk_gval hA46 rfl rfl (g := true) (e := (decide (o_1_Kind < 1))) rfl (fun hg => r_gtr (cv_get (hA46.get rfl) hg) rfl) fun a47 hA47 _ => ?_)
  refine sq (opk_val hA47 rfl (r_pick_or (g := (true && ((decide (o_1_Kind < 1)) == false))) (hA47.get rfl) (hA47.get rfl) (fun he => g_mkf rfl he)) fun a48 hA48 _ => ?_)
  refine sq (opk_val hA48 rfl (r_move (hA48.get rfl)) fun a49 hA49 _ => ?_)
  refine sq (opk_gval hA49 rfl rfl (g := true) (e := ((decide (o_1_Kind < 1)) || (decide (6 < o_1_Kind)))) rfl (fun hg => r_fieldAddr (hA49.get rfl) Try.underlying42 rfl ti_3 (by decide)) fun a50 hA50 _ => ?_)
  refine sq (opk_gval hA50 rfl rfl (g := true) (e := ((decide (o_1_Kind < 1)) || (decide (6 < o_1_Kind)))) rfl (fun hg => r_load1 Try.underlying3 rfl (cv_get (hA50.get rfl) hg) (hB37.cell 1 _ rfl)) fun a51 hA51 _ => ?_)
  refine sq (opk_gval hA51 rfl rfl (g := true) (e := ((decide (o_1_Kind < 1)) || (decide (6 < o_1_Kind)))) rfl (fun hg => r_lss (cv_get (hA51.get rfl) hg) rfl) fun a52 hA52 _ => ?_)
  refine sq (opk_val hA52 rfl (r_pick_or (g := (true && (((decide (o_1_Kind < 1)) || (decide (6 < o_1_Kind))) == false))) (hA52.get rfl) (hA52.get rfl) (fun he => g_mkf rfl he)) fun a53 hA53 _ => ?_)
  refine sq (opk_val hA53 rfl (r_move (hA53.get rfl)) fun a54 hA54 _ => ?_)
  refine sq (opk_gval hA54 rfl rfl (g := true) (e := (((decide (o_1_Kind < 1)) || (decide (6 < o_1_Kind))) || (decide (o_1_ID < 0)))) rfl (fun hg => r_fieldAddr (hA54.get rfl) Try.underlying42 rfl ti_3 (by decide)) fun a55 hA55 _ => ?_)
  refine sq (opk_gval hA55 rfl rfl (g := true) (e := (((decide (o_1_Kind < 1)) || (decide (6 < o_1_Kind))) || (decide (o_1_ID < 0)))) rfl (fun hg => r_load1 Try.underlying3 rfl (cv_get (hA55.get rfl) hg) (hB37.cell 1 _ rfl)) fun a56 hA56 _ => ?_)
  refine sq (opk_gval hA56 rfl rfl (g := true) (e := (((decide (o_1_Kind < 1)) || (decide (6 < o_1_Kind))) || (decide (o_1_ID < 0)))) rfl (fun hg => r_gtr (cv_get (hA56.get rfl) hg) rfl) fun a57 hA57 _ => ?_)
  refine sq (opk_val hA57 rfl (r_pick_or (g := (true && ((((decide (o_1_Kind < 1)) || (decide (6 < o_1_Kind))) || (decide (o_1_ID < 0))) == false))) (hA57.get rfl) (hA57.get rfl) (fun he => g_mkf rfl he)) fun a58 hA58 _ => ?_)
  refine sq_end ?_
  have hA59 := hA58.keep [(1, .pointer (some (⟨B_2, 0, none⟩ : Addr))), (3, .pointer (some (⟨B_22, 0, none⟩ : Addr))), (23, .bool ((((decide (o_1_Kind < 1)) || (decide (6 < o_1_Kind))) || (decide (o_1_ID < 0))) || (decide (1048576 < o_1_ID))))] ⟨rfl, rfl, rfl, trivial⟩
  refine then_normal ?_
  refine wp_cond_split (hA59.get rfl) (fun hc => ?_) (fun hc => ?_)
  · have ht60 := ht16.1 ((b_or_t hc).imp (fun h => ((b_or_t h).imp (fun h => ((b_or_t h).imp (fun h => (of_decide_eq_true h)) (fun h => (of_decide_eq_true h)))) (fun h => (of_decide_eq_true h)))) (fun h => (of_decide_eq_true h)))
    clear hc
    refine wp_seq ?_
    refine wp_region_lit ?_
    refine sq (opk_val hA59 rfl (r_assign rfl) fun a62 hA62 _ => ?_)
    refine sq_end ?_
    have hA63 := hA62.keep [(2, .bool false)] ⟨rfl, trivial⟩
    refine then_normal ?_
    refine wp_ret ?_
    refine then_ret ?_
    have ht64 := ht60 w32 B_22 hN39  hC38
    exact res_all (vs := [.bool false]) rfl hA63 ⟨res_of_tmp hA63 rfl, trivial⟩ ht64
  · have ht61 := ht16.2 ⟨⟨⟨(of_decide_eq_false (b_or_f (b_or_f (b_or_f hc).1).1).1), (of_decide_eq_false (b_or_f (b_or_f (b_or_f hc).1).1).2)⟩, (of_decide_eq_false (b_or_f (b_or_f hc).1).2)⟩, (of_decide_eq_false (b_or_f hc).2)⟩
    clear hc
    refine wp_skip ?_
    refine then_normal ?_
    refine wp_seq ?_
    refine wp_seq ?_
    refine wp_region_lit ?_
    refine sq (opk_val hA59 rfl (r_fieldAddr (hA59.get rfl) Try.underlying42 rfl ti_3 (by decide)) fun a65 hA65 _ => ?_)
    refine sq (opk_val hA65 rfl (r_load1 Try.underlying3 rfl (hA65.get rfl) (hB37.cell 0 _ rfl)) fun a66 hA66 _ => ?_)
    refine sq (opk_val hA66 rfl (r_eql (hA66.get rfl) rfl) fun a67 hA67 _ => ?_)
    refine sq_end ?_
    have hA68 := hA67.keep [(1, .pointer (some (⟨B_2, 0, none⟩ : Addr))), (3, .pointer (some (⟨B_22, 0, none⟩ : Addr))), (26, .bool (decide (o_1_Kind = 1)))] ⟨rfl, rfl, rfl, trivial⟩
    refine then_normal ?_
    refine wp_cond_split (hA68.get rfl) (fun hc => ?_) (fun hc => ?_)
    · have ht69 := ht61.1 (of_decide_eq_true hc)
      clear hc
      refine wp_seq ?_
      refine wp_region_lit ?_
      refine sq (opk_val hA68 rfl (r_fieldAddr (hA68.get rfl) Try.underlying42 rfl ti_3 (by decide)) fun a71 hA71 _ => ?_)
      refine sq (opk_val hA71 rfl (r_load1 Try.underlying3 rfl (hA71.get rfl) (hB37.cell 4 _ rfl)) fun a72 hA72 _ => ?_)
      refine sq (opk_val hA72 rfl (r_geq (hA72.get rfl) rfl) fun a73 hA73 _ => ?_)
      refine sq (opk_val hA73 rfl (r_move (hA73.get rfl)) fun a74 hA74 _ => ?_)
      refine sq (opk_gval hA74 rfl rfl (g := true) (e := (decide (1 ≤ o_1_What))) rfl (fun hg => r_fieldAddr (hA74.get rfl) Try.underlying42 rfl ti_3 (by decide)) fun a75 hA75 _ => ?_)
      refine sq (opk_gval hA75 rfl rfl (g := true) (e := (decide (1 ≤ o_1_What))) rfl (fun hg => r_load1 Try.underlying3 rfl (cv_get (hA75.get rfl) hg) (hB37.cell 4 _ rfl)) fun a76 hA76 _ => ?_)
      refine sq (opk_gval hA76 rfl rfl (g := true) (e := (decide (1 ≤ o_1_What))) rfl (fun hg => r_leq (cv_get (hA76.get rfl) hg) rfl) fun a77 hA77 _ => ?_)
      refine sq (opk_val hA77 rfl (r_pick_and (g := (true && ((decide (1 ≤ o_1_What)) == true))) (hA77.get rfl) (hA77.get rfl) (fun he => g_mkt rfl he)) fun a78 hA78 _ => ?_)
      refine sq (opk_val hA78 rfl (r_assign (hA78.get rfl)) fun a79 hA79 _ => ?_)
      refine sq_end ?_
      have hA80 := hA79.keep [(2, .bool ((decide (1 ≤ o_1_What)) && (decide (o_1_What ≤ 5))))] ⟨rfl, trivial⟩
      refine then_normal ?_
      refine wp_ret ?_
      refine then_ret ?_
      have ht81 := ht69 w32 B_22 hN39  hC38
      exact res_all (vs := [.bool ((decide (1 ≤ o_1_What)) && (decide (o_1_What ≤ 5)))]) rfl hA80 ⟨res_of_tmp hA80 rfl, trivial⟩ ht81
    · have ht70 := ht61.2 (of_decide_eq_false hc)
      clear hc
      refine wp_skip ?_
      refine then_normal ?_
      refine wp_seq ?_
      refine draw' (by kernel_rfl) fun w82 hE83 => ?_
      have hB84 := hB37.ext hE83
      have hB85 := hB36.ext hE83
      have hC86 := hC38.more hE83
      have hN87 := hN39.up hE83.size
      have ht88 := ht70 w82 B_22 hN87  hC86
      obtain ⟨hS91, ht92⟩ := ht88
      obtain ⟨f_97, fst_98, cap_99, hp100, hb102, ht101⟩ := ht92
      obtain ⟨V_104, hst105, hc106, ht107⟩ := ht101
      refine par (D := [[], [0], [0, 1], [0, 1, 2], [0, 1, 2, 3], [], [0, 1, 2, 3, 4, 5], [], [0, 1, 2, 3, 4, 5, 6, 7]]) (S := [0, 1, 2, 3, 4, 5, 6, 7]) (F := []) (V := VL [(0, fun v _ => v = .pointer (some (⟨B_2, 0, none⟩ : Addr))), (1, fun v _ => v = .int .i64 o_1_Kind), (2, fun v _ => v = .pointer (some ((⟨B_22, 0, none⟩ : Addr).add (o_1_Kind.toNat * 2)))), (3, fun v _ => v = .pointer (some (((⟨B_22, 0, none⟩ : Addr).add (o_1_Kind.toNat * 2)).add 1))), (4, fun v _ => v = (([.nilFunc, .nilFunc, .func (.func 51) #[] #[], .func (.func 53) #[] #[], .func (.func 54) #[] #[], .func (.func 56) #[] #[], .func (.func 57) #[] #[], .func (.func 59) #[] #[], .func (.func 60) #[] #[], .func (.func 62) #[] #[], .func (.func 63) #[] #[], .func (.func 65) #[] #[], .func (.func 66) #[] #[], .func (.func 68) #[] #[]] : List Value).getD (o_1_Kind.toNat * 2 + 1) .nilFunc)), (5, fun v _ => v = .agg #[.int .i64 o_1_Kind, .int .i64 o_1_ID, .int .i64 o_1_Parent, .int .i64 o_1_At, .int .i64 o_1_What, .string (Bs o_1_Name), .string (Bs o_1_Text)]), (6, fun v w' => ∃ r_103_Kind : Int, ∃ r_103_ID : Int, ∃ r_103_Parent : Int, ∃ r_103_At : Int, ∃ r_103_What : Int, ∃ r_103_Name : Str, ∃ r_103_Text : Str, V_104 r_103_Kind r_103_ID r_103_Parent r_103_At r_103_What r_103_Name r_103_Text w' ∧ v = .agg #[.int .i64 r_103_Kind, .int .i64 r_103_ID, .int .i64 r_103_Parent, .int .i64 r_103_At, .int .i64 r_103_What, .string (Bs r_103_Name), .string (Bs r_103_Text)]), (7, fun v w' => ∃ B_108 : Nat, w82.heap.size ≤ B_108 ∧ Box w' B_108 42 [.int .i64 0, .int .i64 0, .int .i64 0, .int .i64 0, .int .i64 0, .string (Bs ([] : Str)), .string (Bs ([] : Str))] ∧ v = .pointer (some (⟨B_108, 0, none⟩ : Addr)))]) hA68 (by kernel_rfl) ⟨fun _ _ _ _ h => by first | exact h | (change _ = _ at h; change _ = _; exact h), fun _ _ _ _ h => by first | exact h | (change _ = _ at h; change _ = _; exact h), fun _ _ _ _ h => by first | exact h | (change _ = _ at h; change _ = _; exact h), fun _ _ _ _ h => by first | exact h | (change _ = _ at h; change _ = _; exact h), fun _ _ _ _ h => by first | exact h | (change _ = _ at h; change _ = _; exact h), fun _ _ _ _ h => by first | exact h | (change _ = _ at h; change _ = _; exact h), fun _ _ _ hE ⟨r_103_Kind, r_103_ID, r_103_Parent, r_103_At, r_103_What, r_103_Name, r_103_Text, h0_, e⟩ => ⟨r_103_Kind, r_103_ID, r_103_Parent, r_103_At, r_103_What, r_103_Name, r_103_Text, (hst105 r_103_Kind r_103_ID r_103_Parent r_103_At r_103_What r_103_Name r_103_Text _ _ hE h0_), e⟩, fun _ _ _ hE ⟨B_108, h0_, h1_, e⟩ => ⟨B_108, h0_, (h1_.ext hE), e⟩, trivial⟩ ⟨?_, ?_, ?_, ?_, ?_, ?_, ?_, ?_, trivial⟩ ?_
      · intro a w hT
        have hAp := hT.ag hA68 [(1, .pointer (some (⟨B_2, 0, none⟩ : Addr)))] ⟨rfl, trivial⟩ (by kernel_rfl)
        exact opk_val hAp rfl (r_fieldAddr (hAp.get rfl) Try.underlying42 rfl ti_3 (by decide)) fun _ _ e => ⟨_, e, Chg.refl _ _, fun _ => Eq.refl _⟩
      · intro a w hT
        have hAp := hT.ag hA68 [] trivial (by kernel_rfl)
        have e89 : a.tmps.getD 35 undef = .pointer (some (⟨B_2, 0, none⟩ : Addr)) := hT.vals 0 rfl 35 rfl
        have hAp := hAp.add e89
        exact opk_val hAp rfl (r_load1 Try.underlying3 rfl (hAp.get rfl) ((hB84.ext hT.chg).cell 0 _ rfl)) fun _ _ e => ⟨_, e, Chg.refl _ _, fun _ => Eq.refl _⟩
      · intro a w hT
        have hAp := hT.ag hA68 [(3, .pointer (some (⟨B_22, 0, none⟩ : Addr)))] ⟨rfl, trivial⟩ (by kernel_rfl)
        have e90 : a.tmps.getD 36 undef = .int .i64 o_1_Kind := hT.vals 1 rfl 36 rfl
        have hAp := hAp.add e90
        exact opk_val hAp rfl (r_indexAddrA (hAp.get rfl) (hAp.get rfl) Try.underlying79 ti_78 hS91) fun _ _ e => ⟨_, e, Chg.refl _ _, fun _ => Eq.refl _⟩
      · intro a w hT
        have hAp := hT.ag hA68 [] trivial (by kernel_rfl)
        have e93 : a.tmps.getD 37 undef = .pointer (some ((⟨B_22, 0, none⟩ : Addr).add (o_1_Kind.toNat * 2))) := hT.vals 2 rfl 37 rfl
        have hAp := hAp.add e93
        exact opk_val hAp rfl (r_fieldAddr (hAp.get rfl) Try.underlying78 rfl ti_76 (by decide)) fun _ _ e => ⟨_, e, Chg.refl _ _, fun _ => Eq.refl _⟩
      · intro a w hT
        have hAp := hT.ag hA68 [] trivial (by kernel_rfl)
        have e94 : a.tmps.getD 38 undef = .pointer (some (((⟨B_22, 0, none⟩ : Addr).add (o_1_Kind.toNat * 2)).add 1)) := hT.vals 3 rfl 38 rfl
        have hAp := hAp.add e94
        exact opk_val hAp rfl (r_load1 Try.underlying76 rfl (hAp.get rfl) (Box.cellAt (hB85.ext hT.chg) rfl hS91 (by decide))) fun _ _ e => ⟨_, e, Chg.refl _ _, fun _ => Eq.refl _⟩
      · intro a w hT
        have hAp := hT.ag hA68 [(1, .pointer (some (⟨B_2, 0, none⟩ : Addr)))] ⟨rfl, trivial⟩ (by kernel_rfl)
        exact opk_val hAp rfl (r_loadN (cs := [.int .i64 o_1_Kind, .int .i64 o_1_ID, .int .i64 o_1_Parent, .int .i64 o_1_At, .int .i64 o_1_What, .string (Bs o_1_Name), .string (Bs o_1_Text)]) Try.underlying42 rfl ti_42 (hAp.get rfl) ((hB84.ext hT.chg).part 0 _ rfl)) fun _ _ e => ⟨_, e, Chg.refl _ _, fun _ => Eq.refl _⟩
      · intro a w hT
        have hAp := hT.ag hA68 [] trivial (by kernel_rfl)
        have e95 : a.tmps.getD 39 undef = (([.nilFunc, .nilFunc, .func (.func 51) #[] #[], .func (.func 53) #[] #[], .func (.func 54) #[] #[], .func (.func 56) #[] #[], .func (.func 57) #[] #[], .func (.func 59) #[] #[], .func (.func 60) #[] #[], .func (.func 62) #[] #[], .func (.func 63) #[] #[], .func (.func 65) #[] #[], .func (.func 66) #[] #[], .func (.func 68) #[] #[]] : List Value).getD (o_1_Kind.toNat * 2 + 1) .nilFunc) := hT.vals 4 rfl 39 rfl
        have hAp := hAp.add e95
        have e96 : a.tmps.getD 40 undef = .agg #[.int .i64 o_1_Kind, .int .i64 o_1_ID, .int .i64 o_1_Parent, .int .i64 o_1_At, .int .i64 o_1_What, .string (Bs o_1_Name), .string (Bs o_1_Text)] := hT.vals 5 rfl 40 rfl
        have hAp := hAp.add e96
        exact opk_callX hAp rfl (r_callO (args := #[.agg #[.int .i64 o_1_Kind, .int .i64 o_1_ID, .int .i64 o_1_Parent, .int .i64 o_1_At, .int .i64 o_1_What, .string (Bs o_1_Name), .string (Bs o_1_Text)]]) hb102 (map_arr (ml_cons (hAp.get rfl) ml_nil)) (((hAp.get rfl)).trans hp100)) (hc106 w hT.chg) fun _ _ _ _ e ⟨hE, r_103_Kind, r_103_ID, r_103_Parent, r_103_At, r_103_What, r_103_Name, r_103_Text, he, hV⟩ => ⟨_, e, hE, fun _ => ⟨r_103_Kind, r_103_ID, r_103_Parent, r_103_At, r_103_What, r_103_Name, r_103_Text, hV, he⟩⟩
      · intro a w hT
        have hAp := hT.ag hA68 [] trivial (by kernel_rfl)
        exact opk_new (fun B => .pointer (some ⟨B, 0, none⟩)) hAp rfl (r_alloc (cs := [.int .i64 0, .int .i64 0, .int .i64 0, .int .i64 0, .int .i64 0, .string (Bs ([] : Str)), .string (Bs ([] : Str))]) ti_42 rfl) fun _ w109 B_108 hE110 hN111 hB112 _ e => ⟨_, e, hE110, fun _ => ⟨B_108, Nat.le_trans hT.chg.size hN111.ge, hB112, rfl⟩⟩
      · intro a113 w114 hE115 hag116 hv117
        have hA113 := hag116 [(1, .pointer (some (⟨B_2, 0, none⟩ : Addr)))] ⟨rfl, trivial⟩ (by kernel_rfl)
        obtain ⟨r_103_Kind, r_103_ID, r_103_Parent, r_103_At, r_103_What, r_103_Name, r_103_Text, hf121, e119⟩ := hv117 6 rfl 41 rfl
        have hA120 := hA113.add e119
        obtain ⟨B_108, hf124, hf125, e122⟩ := hv117 7 rfl 4 rfl
        have hA123 := hA120.add e122
        have hB126 := hB84.ext hE115
        have hB127 := hB85.ext hE115
        have hC128 : Chg [] w82 w114 := hE115
        have ht129 := ht107 w114 r_103_Kind r_103_ID r_103_Parent r_103_At r_103_What r_103_Name r_103_Text B_108 hE115 hf121 hf124 hf125
        have hne130 : B_2 ≠ B_108 := Nat.ne_of_lt (Nat.lt_of_lt_of_le hB84.lt hf124)
        have hne131 : B_22 ≠ B_108 := Nat.ne_of_lt (Nat.lt_of_lt_of_le hB85.lt hf124)
        refine one (D := [[], [0], [0, 1], [0, 1, 2], [0, 1, 2, 3], [], [0, 1, 2, 3, 4, 5], [], [0, 1, 2, 3, 4, 5, 6, 7]]) (i := 8) rfl (by kernel_rfl) (opk_store hA123 hf125 (r_store (vs := [.int .i64 r_103_Kind, .int .i64 r_103_ID, .int .i64 r_103_Parent, .int .i64 r_103_At, .int .i64 r_103_What, .string (Bs r_103_Name), .string (Bs r_103_Text)]) (hA123.get rfl) (hA123.get rfl) rfl ti_42 hf125 rfl (ones_all [.int .i64 r_103_Kind, .int .i64 r_103_ID, .int .i64 r_103_Parent, .int .i64 r_103_At, .int .i64 r_103_What, .string (Bs r_103_Name), .string (Bs r_103_Text)] rfl)) fun a133 w132 hS134 hB135 hA133 => ?_)
        have hB136 : Box w132 B_108 42 [.int .i64 r_103_Kind, .int .i64 r_103_ID, .int .i64 r_103_Parent, .int .i64 r_103_At, .int .i64 r_103_What, .string (Bs r_103_Name), .string (Bs r_103_Text)] := hB135
        have hB137 := hB126.keep hS134 (by simpa using hne130)
        have hB138 := hB127.keep hS134 (by simpa using hne131)
        have hC139 : Chg [B_108] w114 w132 := hS134
        refine PR_end (by kernel_rfl) ?_
        have hA140 := hA133.keep [(1, .pointer (some (⟨B_2, 0, none⟩ : Addr))), (4, .pointer (some (⟨B_108, 0, none⟩ : Addr)))] ⟨rfl, rfl, trivial⟩
        refine then_normal ?_
        refine wp_seq ?_
        refine wp_region_lit ?_
        refine sq (opk_val hA140 rfl (r_fieldAddr (hA140.get rfl) Try.underlying42 rfl ti_3 (by decide)) fun a141 hA141 _ => ?_)
        refine sq (opk_val hA141 rfl (r_load1 Try.underlying3 rfl (hA141.get rfl) (hB137.cell 2 _ rfl)) fun a142 hA142 _ => ?_)
        refine sq (opk_val hA142 rfl (r_fieldAddr (hA142.get rfl) Try.underlying42 rfl ti_3 (by decide)) fun a143 hA143 _ => ?_)
        refine sq (opk_val hA143 rfl (r_load1 Try.underlying3 rfl (hA143.get rfl) (hB136.cell 2 _ rfl)) fun a144 hA144 _ => ?_)
        refine sq (opk_val hA144 rfl (r_eql (hA144.get rfl) (hA144.get rfl)) fun a145 hA145 _ => ?_)
        refine sq (opk_val hA145 rfl (r_move (hA145.get rfl)) fun a146 hA146 _ => ?_)
        refine sq (opk_gval hA146 rfl rfl (g := true) (e := (decide (o_1_Parent = r_103_Parent))) rfl (fun hg => r_fieldAddr (hA146.get rfl) Try.underlying42 rfl ti_3 (by decide)) fun a147 hA147 _ => ?_)
        refine sq (opk_gval hA147 rfl rfl (g := true) (e := (decide (o_1_Parent = r_103_Parent))) rfl (fun hg => r_load1 Try.underlying3 rfl (cv_get (hA147.get rfl) hg) (hB137.cell 3 _ rfl)) fun a148 hA148 _ => ?_)
        refine sq (opk_gval hA148 rfl rfl (g := true) (e := (decide (o_1_Parent = r_103_Parent))) rfl (fun hg => r_fieldAddr (hA148.get rfl) Try.underlying42 rfl ti_3 (by decide)) fun a149 hA149 _ => ?_)
        refine sq (opk_gval hA149 rfl rfl (g := true) (e := (decide (o_1_Parent = r_103_Parent))) rfl (fun hg => r_load1 Try.underlying3 rfl (cv_get (hA149.get rfl) hg) (hB136.cell 3 _ rfl)) fun a150 hA150 _ => ?_)
        refine sq (opk_gval hA150 rfl rfl (g := true) (e := (decide (o_1_Parent = r_103_Parent))) rfl (fun hg => r_eql (cv_get (hA150.get rfl) hg) (cv_get (hA150.get rfl) hg)) fun a151 hA151 _ => ?_)
        refine sq (opk_val hA151 rfl (r_pick_and (g := (true && ((decide (o_1_Parent = r_103_Parent)) == true))) (hA151.get rfl) (hA151.get rfl) (fun he => g_mkt rfl he)) fun a152 hA152 _ => ?_)
        refine sq (opk_val hA152 rfl (r_move (hA152.get rfl)) fun a153 hA153 _ => ?_)
        refine sq (opk_gval hA153 rfl rfl (g := true) (e := ((decide (o_1_Parent = r_103_Parent)) && (decide (o_1_At = r_103_At)))) rfl (fun hg => r_fieldAddr (hA153.get rfl) Try.underlying42 rfl ti_3 (by decide)) fun a154 hA154 _ => ?_)
        refine sq (opk_gval hA154 rfl rfl (g := true) (e := ((decide (o_1_Parent = r_103_Parent)) && (decide (o_1_At = r_103_At)))) rfl (fun hg => r_load1 Try.underlying3 rfl (cv_get (hA154.get rfl) hg) (hB137.cell 4 _ rfl)) fun a155 hA155 _ => ?_)
        refine sq (opk_gval hA155 rfl rfl (g := true) (e := ((decide (o_1_Parent = r_103_Parent)) && (decide (o_1_At = r_103_At)))) rfl (fun hg => r_eql (cv_get (hA155.get rfl) hg) rfl) fun a156 hA156 _ => ?_)
        refine sq (opk_val hA156 rfl (r_pick_and (g := (true && (((decide (o_1_Parent = r_103_Parent)) && (decide (o_1_At = r_103_At))) == true))) (hA156.get rfl) (hA156.get rfl) (fun he => g_mkt rfl he)) fun a157 hA157 _ => ?_)
        refine sq (opk_val hA157 rfl (r_move (hA157.get rfl)) fun a158 hA158 _ => ?_)
        refine sq (opk_gval hA158 rfl rfl (g := true) (e := (((decide (o_1_Parent = r_103_Parent)) && (decide (o_1_At = r_103_At))) && (decide (o_1_What = 0)))) rfl (fun hg => r_fieldAddr (hA158.get rfl) Try.underlying42 rfl ti_9 (by decide)) fun a159 hA159 _ => ?_)
        refine sq (opk_gval hA159 rfl rfl (g := true) (e := (((decide (o_1_Parent = r_103_Parent)) && (decide (o_1_At = r_103_At))) && (decide (o_1_What = 0)))) rfl (fun hg => r_load1 Try.underlying9 rfl (cv_get (hA159.get rfl) hg) (hB137.cell 5 _ rfl)) fun a160 hA160 _ => ?_)
        refine sq (opk_gval hA160 rfl rfl (g := true) (e := (((decide (o_1_Parent = r_103_Parent)) && (decide (o_1_At = r_103_At))) && (decide (o_1_What = 0)))) rfl (fun hg => r_fieldAddr (hA160.get rfl) Try.underlying42 rfl ti_9 (by decide)) fun a161 hA161 _ => ?_)
        refine sq (opk_gval hA161 rfl rfl (g := true) (e := (((decide (o_1_Parent = r_103_Parent)) && (decide (o_1_At = r_103_At))) && (decide (o_1_What = 0)))) rfl (fun hg => r_load1 Try.underlying9 rfl (cv_get (hA161.get rfl) hg) (hB136.cell 5 _ rfl)) fun a162 hA162 _ => ?_)
        refine sq (opk_gval hA162 rfl rfl (g := true) (e := (((decide (o_1_Parent = r_103_Parent)) && (decide (o_1_At = r_103_At))) && (decide (o_1_What = 0)))) rfl (fun hg => r_seql (cv_get (hA162.get rfl) hg) (cv_get (hA162.get rfl) hg)) fun a163 hA163 _ => ?_)
        refine sq (opk_val hA163 rfl (r_pick_and (g := (true && ((((decide (o_1_Parent = r_103_Parent)) && (decide (o_1_At = r_103_At))) && (decide (o_1_What = 0))) == true))) (hA163.get rfl) (hA163.get rfl) (fun he => g_mkt rfl he)) fun a164 hA164 _ => ?_)
        refine sq (opk_val hA164 rfl (r_move (hA164.get rfl)) fun a165 hA165 _ => ?_)
        refine sq (opk_gval hA165 rfl rfl (g := true) (e := ((((decide (o_1_Parent = r_103_Parent)) && (decide (o_1_At = r_103_At))) && (decide (o_1_What = 0))) && (decide (o_1_Name = r_103_Name)))) rfl (fun hg => r_fieldAddr (hA165.get rfl) Try.underlying42 rfl ti_9 (by decide)) fun a166 hA166 _ => ?_)
        refine sq (opk_gval hA166 rfl rfl (g := true) (e := ((((decide (o_1_Parent = r_103_Parent)) && (decide (o_1_At = r_103_At))) && (decide (o_1_What = 0))) && (decide (o_1_Name = r_103_Name)))) rfl (fun hg => r_load1 Try.underlying9 rfl (cv_get (hA166.get rfl) hg) (hB137.cell 6 _ rfl)) fun a167 hA167 _ => ?_)
        refine sq (opk_gval hA167 rfl rfl (g := true) (e := ((((decide (o_1_Parent = r_103_Parent)) && (decide (o_1_At = r_103_At))) && (decide (o_1_What = 0))) && (decide (o_1_Name = r_103_Name)))) rfl (fun hg => r_fieldAddr (hA167.get rfl) Try.underlying42 rfl ti_9 (by decide)) fun a168 hA168 _ => ?_)
        refine sq (opk_gval hA168 rfl rfl (g := true) (e := ((((decide (o_1_Parent = r_103_Parent)) && (decide (o_1_At = r_103_At))) && (decide (o_1_What = 0))) && (decide (o_1_Name = r_103_Name)))) rfl (fun hg => r_load1 Try.underlying9 rfl (cv_get (hA168.get rfl) hg) (hB136.cell 6 _ rfl)) fun a169 hA169 _ => ?_)
        refine sq (opk_gval hA169 rfl rfl (g := true) (e := ((((decide (o_1_Parent = r_103_Parent)) && (decide (o_1_At = r_103_At))) && (decide (o_1_What = 0))) && (decide (o_1_Name = r_103_Name)))) rfl (fun hg => r_seql (cv_get (hA169.get rfl) hg) (cv_get (hA169.get rfl) hg)) fun a170 hA170 _ => ?_)
        refine sq (opk_val hA170 rfl (r_pick_and (g := (true && (((((decide (o_1_Parent = r_103_Parent)) && (decide (o_1_At = r_103_At))) && (decide (o_1_What = 0))) && (decide (o_1_Name = r_103_Name))) == true))) (hA170.get rfl) (hA170.get rfl) (fun he => g_mkt rfl he)) fun a171 hA171 _ => ?_)
        refine sq (opk_val hA171 rfl (r_assign (hA171.get rfl)) fun a172 hA172 _ => ?_)
        refine sq_end ?_
        have hA173 := hA172.keep [(2, .bool (((((decide (o_1_Parent = r_103_Parent)) && (decide (o_1_At = r_103_At))) && (decide (o_1_What = 0))) && (decide (o_1_Name = r_103_Name))) && (decide (o_1_Text = r_103_Text))))] ⟨rfl, trivial⟩
        refine then_normal ?_
        refine wp_ret ?_
        have ht174 := ht129 w132    hC139
        exact res_all (vs := [.bool (((((decide (o_1_Parent = r_103_Parent)) && (decide (o_1_At = r_103_At))) && (decide (o_1_What = 0))) && (decide (o_1_Name = r_103_Name))) && (decide (o_1_Text = r_103_Text)))]) rfl hA173 ⟨res_of_tmp hA173 rfl, trivial⟩ ht174

/-- The condition of topiary/apply.calls. -/
def apply_calls.vc  (R : Value → World → Prop) (w : World) : Prop :=
∀ (w17 : World) (B_1 : Nat), New w B_1 w17 → Chg [] w w17 →
R (.agg #[.nilFunc, .nilFunc, .func (.func 51) #[] #[], .func (.func 53) #[] #[], .func (.func 54) #[] #[], .func (.func 56) #[] #[], .func (.func 57) #[] #[], .func (.func 59) #[] #[], .func (.func 60) #[] #[], .func (.func 62) #[] #[], .func (.func 63) #[] #[], .func (.func 65) #[] #[], .func (.func 66) #[] #[], .func (.func 68) #[] #[]]) w17
set_option maxHeartbeats 1000000 in
set_option maxRecDepth 10000 in
theorem apply_calls.ok  {R : Value → World → Prop} {w : World} (ht0 : apply_calls.vc  R w) : Calls Try.prog 41 #[] w (Ret R) := by
  refine enter [] Try.func41 rfl Try.ntmps41 rfl ?_
  intro a0 hA0
  unfold apply_calls.vc at ht0
  refine wp_seq ?_
  refine wp_region_lit ?_
  refine sq (opk_new (fun B => .pointer (some ⟨B, 0, none⟩)) hA0 rfl (r_alloc (cs := [.nilFunc, .nilFunc, .nilFunc, .nilFunc, .nilFunc, .nilFunc, .nilFunc, .nilFunc, .nilFunc, .nilFunc, .nilFunc, .nilFunc, .nilFunc, .nilFunc]) ti_79 rfl) fun a3 w2 B_1 hE4 hN5 hB6 hA3 _ => ?_)
  have hN7 : New w B_1 w2 := hN5
  have hC8 : Chg [] w w2 := hE4
  refine sq_end ?_
  have hA9 := hA3.keep [(0, .pointer (some (⟨B_1, 0, none⟩ : Addr)))] ⟨rfl, trivial⟩
  refine then_normal ?_
  refine wp_seq ?_
  refine wp_region_lit ?_
  refine sq (opk_val hA9 rfl (r_build (vs := #[(0, .func (.func 51) #[] #[]), (1, .func (.func 53) #[] #[])]) (cells := #[.func (.func 51) #[] #[], .func (.func 53) #[] #[]]) (map_arr2 (ml2_cons rfl (ml2_cons rfl (ml2_nil)))) ti_78 Try.underlying78 pl_78 (by kernel_rfl)) fun a10 hA10 _ => ?_)
  refine sq (opk_val hA10 rfl (r_build (vs := #[(0, .func (.func 54) #[] #[]), (1, .func (.func 56) #[] #[])]) (cells := #[.func (.func 54) #[] #[], .func (.func 56) #[] #[]]) (map_arr2 (ml2_cons rfl (ml2_cons rfl (ml2_nil)))) ti_78 Try.underlying78 pl_78 (by kernel_rfl)) fun a11 hA11 _ => ?_)
  refine sq (opk_val hA11 rfl (r_build (vs := #[(0, .func (.func 57) #[] #[]), (1, .func (.func 59) #[] #[])]) (cells := #[.func (.func 57) #[] #[], .func (.func 59) #[] #[]]) (map_arr2 (ml2_cons rfl (ml2_cons rfl (ml2_nil)))) ti_78 Try.underlying78 pl_78 (by kernel_rfl)) fun a12 hA12 _ => ?_)
  refine sq (opk_val hA12 rfl (r_build (vs := #[(0, .func (.func 60) #[] #[]), (1, .func (.func 62) #[] #[])]) (cells := #[.func (.func 60) #[] #[], .func (.func 62) #[] #[]]) (map_arr2 (ml2_cons rfl (ml2_cons rfl (ml2_nil)))) ti_78 Try.underlying78 pl_78 (by kernel_rfl)) fun a13 hA13 _ => ?_)
  refine sq (opk_val hA13 rfl (r_build (vs := #[(0, .func (.func 63) #[] #[]), (1, .func (.func 65) #[] #[])]) (cells := #[.func (.func 63) #[] #[], .func (.func 65) #[] #[]]) (map_arr2 (ml2_cons rfl (ml2_cons rfl (ml2_nil)))) ti_78 Try.underlying78 pl_78 (by kernel_rfl)) fun a14 hA14 _ => ?_)
  refine sq (opk_val hA14 rfl (r_build (vs := #[(0, .func (.func 66) #[] #[]), (1, .func (.func 68) #[] #[])]) (cells := #[.func (.func 66) #[] #[], .func (.func 68) #[] #[]]) (map_arr2 (ml2_cons rfl (ml2_cons rfl (ml2_nil)))) ti_78 Try.underlying78 pl_78 (by kernel_rfl)) fun a15 hA15 _ => ?_)
  refine sq (opk_val hA15 rfl (r_buildA (vs := #[(1, .agg #[.func (.func 51) #[] #[], .func (.func 53) #[] #[]]), (2, .agg #[.func (.func 54) #[] #[], .func (.func 56) #[] #[]]), (3, .agg #[.func (.func 57) #[] #[], .func (.func 59) #[] #[]]), (4, .agg #[.func (.func 60) #[] #[], .func (.func 62) #[] #[]]), (5, .agg #[.func (.func 63) #[] #[], .func (.func 65) #[] #[]]), (6, .agg #[.func (.func 66) #[] #[], .func (.func 68) #[] #[]])]) (cells := #[.nilFunc, .nilFunc, .func (.func 51) #[] #[], .func (.func 53) #[] #[], .func (.func 54) #[] #[], .func (.func 56) #[] #[], .func (.func 57) #[] #[], .func (.func 59) #[] #[], .func (.func 60) #[] #[], .func (.func 62) #[] #[], .func (.func 63) #[] #[], .func (.func 65) #[] #[], .func (.func 66) #[] #[], .func (.func 68) #[] #[]]) (map_arr2 (ml2_cons (hA15.get rfl) (ml2_cons (hA15.get rfl) (ml2_cons (hA15.get rfl) (ml2_cons (hA15.get rfl) (ml2_cons (hA15.get rfl) (ml2_cons (hA15.get rfl) (ml2_nil)))))))) ti_79 Try.underlying79 ti_78 (by kernel_rfl)) fun a16 hA16 _ => ?_)
  refine sq (opk_store hA16 hB6 (r_store (vs := [.nilFunc, .nilFunc, .func (.func 51) #[] #[], .func (.func 53) #[] #[], .func (.func 54) #[] #[], .func (.func 56) #[] #[], .func (.func 57) #[] #[], .func (.func 59) #[] #[], .func (.func 60) #[] #[], .func (.func 62) #[] #[], .func (.func 63) #[] #[], .func (.func 65) #[] #[], .func (.func 66) #[] #[], .func (.func 68) #[] #[]]) (hA16.get rfl) (hA16.get rfl) rfl ti_79 hB6 rfl (ones_all [.nilFunc, .nilFunc, .func (.func 51) #[] #[], .func (.func 53) #[] #[], .func (.func 54) #[] #[], .func (.func 56) #[] #[], .func (.func 57) #[] #[], .func (.func 59) #[] #[], .func (.func 60) #[] #[], .func (.func 62) #[] #[], .func (.func 63) #[] #[], .func (.func 65) #[] #[], .func (.func 66) #[] #[], .func (.func 68) #[] #[]] rfl)) fun a18 w17 hS19 hB20 hA18 => ?_)
  have hB21 : Box w17 B_1 79 [.nilFunc, .nilFunc, .func (.func 51) #[] #[], .func (.func 53) #[] #[], .func (.func 54) #[] #[], .func (.func 56) #[] #[], .func (.func 57) #[] #[], .func (.func 59) #[] #[], .func (.func 60) #[] #[], .func (.func 62) #[] #[], .func (.func 63) #[] #[], .func (.func 65) #[] #[], .func (.func 66) #[] #[], .func (.func 68) #[] #[]] := hB20
  have hC22 := hC8.storeNew hN7 hS19
  have hN23 := hN7.up hS19.size
  refine sq_end ?_
  have hA24 := hA18.keep [(0, .pointer (some (⟨B_1, 0, none⟩ : Addr)))] ⟨rfl, trivial⟩
  refine then_normal ?_
  refine wp_ret ?_
  have ht25 := ht0 w17 B_1 hN23  hC22
  exact res_all (vs := [.agg #[.nilFunc, .nilFunc, .func (.func 51) #[] #[], .func (.func 53) #[] #[], .func (.func 54) #[] #[], .func (.func 56) #[] #[], .func (.func 57) #[] #[], .func (.func 59) #[] #[], .func (.func 60) #[] #[], .func (.func 62) #[] #[], .func (.func 63) #[] #[], .func (.func 65) #[] #[], .func (.func 66) #[] #[], .func (.func 68) #[] #[]]]) rfl hA24 ⟨res_of_cell hA24 rfl hB21 Try.underlying79 rfl ti_79, trivial⟩ ht25

/-- The condition of topiary/apply.calls.4. -/
def apply_calls_4.vc (o_1_Kind : Int) (o_1_ID : Int) (o_1_Parent : Int) (o_1_At : Int) (o_1_What : Int) (o_1_Name : Str) (o_1_Text : Str) (R : Value → World → Prop) (w : World) : Prop :=
∀ (w23 : World) (B_2 : Nat) (B_10 : Nat), New w B_2 w23 → New w B_10 w23 → B_2 ≠ B_10 → Chg [] w w23 →
R (.agg #[.int .i64 0, .int .i64 0, .int .i64 0, .int .i64 0, .int .i64 0, .string (Bs ([] : Str)), .string (Bs ([] : Str))]) w23
set_option maxHeartbeats 1000000 in
set_option maxRecDepth 10000 in
theorem apply_calls_4.ok (o_1_Kind : Int) (o_1_ID : Int) (o_1_Parent : Int) (o_1_At : Int) (o_1_What : Int) (o_1_Name : Str) (o_1_Text : Str) {R : Value → World → Prop} {w : World} (ht0 : apply_calls_4.vc o_1_Kind o_1_ID o_1_Parent o_1_At o_1_What o_1_Name o_1_Text R w) : Calls Try.prog 56 #[.agg #[.int .i64 o_1_Kind, .int .i64 o_1_ID, .int .i64 o_1_Parent, .int .i64 o_1_At, .int .i64 o_1_What, .string (Bs o_1_Name), .string (Bs o_1_Text)]] w (Ret R) := by
  refine enter [.agg #[.int .i64 o_1_Kind, .int .i64 o_1_ID, .int .i64 o_1_Parent, .int .i64 o_1_At, .int .i64 o_1_What, .string (Bs o_1_Name), .string (Bs o_1_Text)]] Try.func56 rfl Try.ntmps56 rfl ?_
  intro a0 hA0
  unfold apply_calls_4.vc at ht0
  refine wp_seq ?_
  refine wp_region_lit ?_
  refine sq (opk_new (fun B => .pointer (some ⟨B, 0, none⟩)) hA0 rfl (r_box (cs := [.int .i64 o_1_Kind, .int .i64 o_1_ID, .int .i64 o_1_Parent, .int .i64 o_1_At, .int .i64 o_1_What, .string (Bs o_1_Name), .string (Bs o_1_Text)]) (hA0.get rfl) rfl) fun a4 w3 B_2 hE5 hN6 hB7 hA4 _ => ?_)
  have hN8 : New w B_2 w3 := hN6
  have hC9 : Chg [] w w3 := hE5
  refine sq (opk_new (fun B => .pointer (some ⟨B, 0, none⟩)) hA4 rfl (r_alloc (cs := [.int .i64 0, .int .i64 0, .int .i64 0, .int .i64 0, .int .i64 0, .string (Bs ([] : Str)), .string (Bs ([] : Str))]) ti_42 rfl) fun a12 w11 B_10 hE13 hN14 hB15 hA12 _ => ?_)
  have hne16 : B_2 ≠ B_10 := Nat.ne_of_lt (Nat.lt_of_lt_of_le hB7.lt hN14.ge)
  have hN17 := New.of hC9 hN14
  have hB18 := hB7.ext hE13
  have hC19 := hC9.more hE13
  have hN20 := hN8.up hE13.size
  refine sq_end ?_
  have hA21 := hA12.keep [(2, .pointer (some (⟨B_10, 0, none⟩ : Addr)))] ⟨rfl, trivial⟩
  refine then_normal ?_
  refine wp_seq ?_
  refine wp_region_lit ?_
  refine sq (opk_val hA21 rfl (r_build (vs := #[]) (cells := #[.int .i64 0, .int .i64 0, .int .i64 0, .int .i64 0, .int .i64 0, .string (Bs ([] : Str)), .string (Bs ([] : Str))]) (map_arr2 ml2_nil) ti_42 Try.underlying42 pl_42 (by kernel_rfl)) fun a22 hA22 _ => ?_)
  refine sq (opk_store hA22 hB15 (r_store (vs := [.int .i64 0, .int .i64 0, .int .i64 0, .int .i64 0, .int .i64 0, .string (Bs ([] : Str)), .string (Bs ([] : Str))]) (hA22.get rfl) (hA22.get rfl) rfl ti_42 hB15 rfl (ones_all [.int .i64 0, .int .i64 0, .int .i64 0, .int .i64 0, .int .i64 0, .string (Bs ([] : Str)), .string (Bs ([] : Str))] rfl)) fun a24 w23 hS25 hB26 hA24 => ?_)
  have hB27 : Box w23 B_10 42 [.int .i64 0, .int .i64 0, .int .i64 0, .int .i64 0, .int .i64 0, .string (Bs ([] : Str)), .string (Bs ([] : Str))] := hB26
  have hC28 := hC19.storeNew hN17 hS25
  have hN29 := hN20.up hS25.size
  have hN30 := hN17.up hS25.size
  refine sq_end ?_
  have hA31 := hA24.keep [(2, .pointer (some (⟨B_10, 0, none⟩ : Addr)))] ⟨rfl, trivial⟩
  refine then_normal ?_
  refine wp_ret ?_
  have ht32 := ht0 w23 B_2 B_10 hN29 hN30 hne16 hC28
  exact res_all (vs := [.agg #[.int .i64 0, .int .i64 0, .int .i64 0, .int .i64 0, .int .i64 0, .string (Bs ([] : Str)), .string (Bs ([] : Str))]]) rfl hA31 ⟨res_of_cell hA31 rfl hB27 Try.underlying42 rfl ti_42, trivial⟩ ht32

/-- The condition of topiary/apply.calls.6. -/
def apply_calls_6.vc (o_1_Kind : Int) (o_1_ID : Int) (o_1_Parent : Int) (o_1_At : Int) (o_1_What : Int) (o_1_Name : Str) (o_1_Text : Str) (R : Value → World → Prop) (w : World) : Prop :=
∀ (w27 : World) (B_2 : Nat) (B_10 : Nat), New w B_2 w27 → New w B_10 w27 → B_2 ≠ B_10 → Chg [] w w27 →
R (.agg #[.int .i64 0, .int .i64 0, .int .i64 o_1_Parent, .int .i64 o_1_At, .int .i64 0, .string (Bs ([] : Str)), .string (Bs ([] : Str))]) w27
set_option maxHeartbeats 1000000 in
set_option maxRecDepth 10000 in
theorem apply_calls_6.ok (o_1_Kind : Int) (o_1_ID : Int) (o_1_Parent : Int) (o_1_At : Int) (o_1_What : Int) (o_1_Name : Str) (o_1_Text : Str) {R : Value → World → Prop} {w : World} (ht0 : apply_calls_6.vc o_1_Kind o_1_ID o_1_Parent o_1_At o_1_What o_1_Name o_1_Text R w) : Calls Try.prog 59 #[.agg #[.int .i64 o_1_Kind, .int .i64 o_1_ID, .int .i64 o_1_Parent, .int .i64 o_1_At, .int .i64 o_1_What, .string (Bs o_1_Name), .string (Bs o_1_Text)]] w (Ret R) := by
  refine enter [.agg #[.int .i64 o_1_Kind, .int .i64 o_1_ID, .int .i64 o_1_Parent, .int .i64 o_1_At, .int .i64 o_1_What, .string (Bs o_1_Name), .string (Bs o_1_Text)]] Try.func59 rfl Try.ntmps59 rfl ?_
  intro a0 hA0
  unfold apply_calls_6.vc at ht0
  refine wp_seq ?_
  refine wp_region_lit ?_
  refine sq (opk_new (fun B => .pointer (some ⟨B, 0, none⟩)) hA0 rfl (r_box (cs := [.int .i64 o_1_Kind, .int .i64 o_1_ID, .int .i64 o_1_Parent, .int .i64 o_1_At, .int .i64 o_1_What, .string (Bs o_1_Name), .string (Bs o_1_Text)]) (hA0.get rfl) rfl) fun a4 w3 B_2 hE5 hN6 hB7 hA4 _ => ?_)
  have hN8 : New w B_2 w3 := hN6
  have hC9 : Chg [] w w3 := hE5
  refine sq (opk_new (fun B => .pointer (some ⟨B, 0, none⟩)) hA4 rfl (r_alloc (cs := [.int .i64 0, .int .i64 0, .int .i64 0, .int .i64 0, .int .i64 0, .string (Bs ([] : Str)), .string (Bs ([] : Str))]) ti_42 rfl) fun a12 w11 B_10 hE13 hN14 hB15 hA12 _ => ?_)
  have hne16 : B_2 ≠ B_10 := Nat.ne_of_lt (Nat.lt_of_lt_of_le hB7.lt hN14.ge)
  have hN17 := New.of hC9 hN14
  have hB18 := hB7.ext hE13
  have hC19 := hC9.more hE13
  have hN20 := hN8.up hE13.size
  refine sq_end ?_
  have hA21 := hA12.keep [(1, .pointer (some (⟨B_2, 0, none⟩ : Addr))), (2, .pointer (some (⟨B_10, 0, none⟩ : Addr)))] ⟨rfl, rfl, trivial⟩
  refine then_normal ?_
  refine wp_seq ?_
  refine wp_region_lit ?_
  refine sq (opk_val hA21 rfl (r_fieldAddr (hA21.get rfl) Try.underlying42 rfl ti_3 (by decide)) fun a22 hA22 _ => ?_)
  refine sq (opk_val hA22 rfl (r_load1 Try.underlying3 rfl (hA22.get rfl) (hB18.cell 2 _ rfl)) fun a23 hA23 _ => ?_)
  refine sq (opk_val hA23 rfl (r_fieldAddr (hA23.get rfl) Try.underlying42 rfl ti_3 (by decide)) fun a24 hA24 _ => ?_)
  refine sq (opk_val hA24 rfl (r_load1 Try.underlying3 rfl (hA24.get rfl) (hB18.cell 3 _ rfl)) fun a25 hA25 _ => ?_)
  refine sq (opk_val hA25 rfl (r_build (vs := #[(2, .int .i64 o_1_Parent), (3, .int .i64 o_1_At)]) (cells := #[.int .i64 0, .int .i64 0, .int .i64 o_1_Parent, .int .i64 o_1_At, .int .i64 0, .string (Bs ([] : Str)), .string (Bs ([] : Str))]) (map_arr2 (ml2_cons (hA25.get rfl) (ml2_cons (hA25.get rfl) (ml2_nil)))) ti_42 Try.underlying42 pl_42 (by kernel_rfl)) fun a26 hA26 _ => ?_)
  refine sq (opk_store hA26 hB15 (r_store (vs := [.int .i64 0, .int .i64 0, .int .i64 o_1_Parent, .int .i64 o_1_At, .int .i64 0, .string (Bs ([] : Str)), .string (Bs ([] : Str))]) (hA26.get rfl) (hA26.get rfl) rfl ti_42 hB15 rfl (ones_all [.int .i64 0, .int .i64 0, .int .i64 o_1_Parent, .int .i64 o_1_At, .int .i64 0, .string (Bs ([] : Str)), .string (Bs ([] : Str))] rfl)) fun a28 w27 hS29 hB30 hA28 => ?_)
  have hB31 : Box w27 B_10 42 [.int .i64 0, .int .i64 0, .int .i64 o_1_Parent, .int .i64 o_1_At, .int .i64 0, .string (Bs ([] : Str)), .string (Bs ([] : Str))] := hB30
  have hB32 := hB18.keep hS29 (by simpa using hne16)
  have hC33 := hC19.storeNew hN17 hS29
  have hN34 := hN20.up hS29.size
  have hN35 := hN17.up hS29.size
  refine sq_end ?_
  have hA36 := hA28.keep [(2, .pointer (some (⟨B_10, 0, none⟩ : Addr)))] ⟨rfl, trivial⟩
  refine then_normal ?_
  refine wp_ret ?_
  have ht37 := ht0 w27 B_2 B_10 hN34 hN35 hne16 hC33
  exact res_all (vs := [.agg #[.int .i64 0, .int .i64 0, .int .i64 o_1_Parent, .int .i64 o_1_At, .int .i64 0, .string (Bs ([] : Str)), .string (Bs ([] : Str))]]) rfl hA36 ⟨res_of_cell hA36 rfl hB31 Try.underlying42 rfl ti_42, trivial⟩ ht37

/-- The condition of topiary/apply.calls.8. -/
def apply_calls_8.vc (o_1_Kind : Int) (o_1_ID : Int) (o_1_Parent : Int) (o_1_At : Int) (o_1_What : Int) (o_1_Name : Str) (o_1_Text : Str) (R : Value → World → Prop) (w : World) : Prop :=
∀ (w27 : World) (B_2 : Nat) (B_10 : Nat), New w B_2 w27 → New w B_10 w27 → B_2 ≠ B_10 → Chg [] w w27 →
R (.agg #[.int .i64 0, .int .i64 0, .int .i64 0, .int .i64 0, .int .i64 0, .string (Bs o_1_Name), .string (Bs o_1_Text)]) w27
set_option maxHeartbeats 1000000 in
set_option maxRecDepth 10000 in
theorem apply_calls_8.ok (o_1_Kind : Int) (o_1_ID : Int) (o_1_Parent : Int) (o_1_At : Int) (o_1_What : Int) (o_1_Name : Str) (o_1_Text : Str) {R : Value → World → Prop} {w : World} (ht0 : apply_calls_8.vc o_1_Kind o_1_ID o_1_Parent o_1_At o_1_What o_1_Name o_1_Text R w) : Calls Try.prog 62 #[.agg #[.int .i64 o_1_Kind, .int .i64 o_1_ID, .int .i64 o_1_Parent, .int .i64 o_1_At, .int .i64 o_1_What, .string (Bs o_1_Name), .string (Bs o_1_Text)]] w (Ret R) := by
  refine enter [.agg #[.int .i64 o_1_Kind, .int .i64 o_1_ID, .int .i64 o_1_Parent, .int .i64 o_1_At, .int .i64 o_1_What, .string (Bs o_1_Name), .string (Bs o_1_Text)]] Try.func62 rfl Try.ntmps62 rfl ?_
  intro a0 hA0
  unfold apply_calls_8.vc at ht0
  refine wp_seq ?_
  refine wp_region_lit ?_
  refine sq (opk_new (fun B => .pointer (some ⟨B, 0, none⟩)) hA0 rfl (r_box (cs := [.int .i64 o_1_Kind, .int .i64 o_1_ID, .int .i64 o_1_Parent, .int .i64 o_1_At, .int .i64 o_1_What, .string (Bs o_1_Name), .string (Bs o_1_Text)]) (hA0.get rfl) rfl) fun a4 w3 B_2 hE5 hN6 hB7 hA4 _ => ?_)
  have hN8 : New w B_2 w3 := hN6
  have hC9 : Chg [] w w3 := hE5
  refine sq (opk_new (fun B => .pointer (some ⟨B, 0, none⟩)) hA4 rfl (r_alloc (cs := [.int .i64 0, .int .i64 0, .int .i64 0, .int .i64 0, .int .i64 0, .string (Bs ([] : Str)), .string (Bs ([] : Str))]) ti_42 rfl) fun a12 w11 B_10 hE13 hN14 hB15 hA12 _ => ?_)
  have hne16 : B_2 ≠ B_10 := Nat.ne_of_lt (Nat.lt_of_lt_of_le hB7.lt hN14.ge)
  have hN17 := New.of hC9 hN14
  have hB18 := hB7.ext hE13
  have hC19 := hC9.more hE13
  have hN20 := hN8.up hE13.size
  refine sq_end ?_
  have hA21 := hA12.keep [(1, .pointer (some (⟨B_2, 0, none⟩ : Addr))), (2, .pointer (some (⟨B_10, 0, none⟩ : Addr)))] ⟨rfl, rfl, trivial⟩
  refine then_normal ?_
  refine wp_seq ?_
  refine wp_region_lit ?_
  refine sq (opk_val hA21 rfl (r_fieldAddr (hA21.get rfl) Try.underlying42 rfl ti_9 (by decide)) fun a22 hA22 _ => ?_)
  refine sq (opk_val hA22 rfl (r_load1 Try.underlying9 rfl (hA22.get rfl) (hB18.cell 5 _ rfl)) fun a23 hA23 _ => ?_)
  refine sq (opk_val hA23 rfl (r_fieldAddr (hA23.get rfl) Try.underlying42 rfl ti_9 (by decide)) fun a24 hA24 _ => ?_)
  refine sq (opk_val hA24 rfl (r_load1 Try.underlying9 rfl (hA24.get rfl) (hB18.cell 6 _ rfl)) fun a25 hA25 _ => ?_)
  refine sq (opk_val hA25 rfl (r_build (vs := #[(5, .string (Bs o_1_Name)), (6, .string (Bs o_1_Text))]) (cells := #[.int .i64 0, .int .i64 0, .int .i64 0, .int .i64 0, .int .i64 0, .string (Bs o_1_Name), .string (Bs o_1_Text)]) (map_arr2 (ml2_cons (hA25.get rfl) (ml2_cons (hA25.get rfl) (ml2_nil)))) ti_42 Try.underlying42 pl_42 (by kernel_rfl)) fun a26 hA26 _ => ?_)
  refine sq (opk_store hA26 hB15 (r_store (vs := [.int .i64 0, .int .i64 0, .int .i64 0, .int .i64 0, .int .i64 0, .string (Bs o_1_Name), .string (Bs o_1_Text)]) (hA26.get rfl) (hA26.get rfl) rfl ti_42 hB15 rfl (ones_all [.int .i64 0, .int .i64 0, .int .i64 0, .int .i64 0, .int .i64 0, .string (Bs o_1_Name), .string (Bs o_1_Text)] rfl)) fun a28 w27 hS29 hB30 hA28 => ?_)
  have hB31 : Box w27 B_10 42 [.int .i64 0, .int .i64 0, .int .i64 0, .int .i64 0, .int .i64 0, .string (Bs o_1_Name), .string (Bs o_1_Text)] := hB30
  have hB32 := hB18.keep hS29 (by simpa using hne16)
  have hC33 := hC19.storeNew hN17 hS29
  have hN34 := hN20.up hS29.size
  have hN35 := hN17.up hS29.size
  refine sq_end ?_
  have hA36 := hA28.keep [(2, .pointer (some (⟨B_10, 0, none⟩ : Addr)))] ⟨rfl, trivial⟩
  refine then_normal ?_
  refine wp_ret ?_
  have ht37 := ht0 w27 B_2 B_10 hN34 hN35 hne16 hC33
  exact res_all (vs := [.agg #[.int .i64 0, .int .i64 0, .int .i64 0, .int .i64 0, .int .i64 0, .string (Bs o_1_Name), .string (Bs o_1_Text)]]) rfl hA36 ⟨res_of_cell hA36 rfl hB31 Try.underlying42 rfl ti_42, trivial⟩ ht37

/-- The condition of topiary/apply.calls.10. -/
def apply_calls_10.vc (o_1_Kind : Int) (o_1_ID : Int) (o_1_Parent : Int) (o_1_At : Int) (o_1_What : Int) (o_1_Name : Str) (o_1_Text : Str) (R : Value → World → Prop) (w : World) : Prop :=
∀ (w25 : World) (B_2 : Nat) (B_10 : Nat), New w B_2 w25 → New w B_10 w25 → B_2 ≠ B_10 → Chg [] w w25 →
R (.agg #[.int .i64 0, .int .i64 0, .int .i64 0, .int .i64 0, .int .i64 0, .string (Bs o_1_Name), .string (Bs ([] : Str))]) w25
set_option maxHeartbeats 1000000 in
set_option maxRecDepth 10000 in
theorem apply_calls_10.ok (o_1_Kind : Int) (o_1_ID : Int) (o_1_Parent : Int) (o_1_At : Int) (o_1_What : Int) (o_1_Name : Str) (o_1_Text : Str) {R : Value → World → Prop} {w : World} (ht0 : apply_calls_10.vc o_1_Kind o_1_ID o_1_Parent o_1_At o_1_What o_1_Name o_1_Text R w) : Calls Try.prog 65 #[.agg #[.int .i64 o_1_Kind, .int .i64 o_1_ID, .int .i64 o_1_Parent, .int .i64 o_1_At, .int .i64 o_1_What, .string (Bs o_1_Name), .string (Bs o_1_Text)]] w (Ret R) := by
  refine enter [.agg #[.int .i64 o_1_Kind, .int .i64 o_1_ID, .int .i64 o_1_Parent, .int .i64 o_1_At, .int .i64 o_1_What, .string (Bs o_1_Name), .string (Bs o_1_Text)]] Try.func65 rfl Try.ntmps65 rfl ?_
  intro a0 hA0
  unfold apply_calls_10.vc at ht0
  refine wp_seq ?_
  refine wp_region_lit ?_
  refine sq (opk_new (fun B => .pointer (some ⟨B, 0, none⟩)) hA0 rfl (r_box (cs := [.int .i64 o_1_Kind, .int .i64 o_1_ID, .int .i64 o_1_Parent, .int .i64 o_1_At, .int .i64 o_1_What, .string (Bs o_1_Name), .string (Bs o_1_Text)]) (hA0.get rfl) rfl) fun a4 w3 B_2 hE5 hN6 hB7 hA4 _ => ?_)
  have hN8 : New w B_2 w3 := hN6
  have hC9 : Chg [] w w3 := hE5
  refine sq (opk_new (fun B => .pointer (some ⟨B, 0, none⟩)) hA4 rfl (r_alloc (cs := [.int .i64 0, .int .i64 0, .int .i64 0, .int .i64 0, .int .i64 0, .string (Bs ([] : Str)), .string (Bs ([] : Str))]) ti_42 rfl) fun a12 w11 B_10 hE13 hN14 hB15 hA12 _ => ?_)
  have hne16 : B_2 ≠ B_10 := Nat.ne_of_lt (Nat.lt_of_lt_of_le hB7.lt hN14.ge)
  have hN17 := New.of hC9 hN14
  have hB18 := hB7.ext hE13
  have hC19 := hC9.more hE13
  have hN20 := hN8.up hE13.size
  refine sq_end ?_
  have hA21 := hA12.keep [(1, .pointer (some (⟨B_2, 0, none⟩ : Addr))), (2, .pointer (some (⟨B_10, 0, none⟩ : Addr)))] ⟨rfl, rfl, trivial⟩
  refine then_normal ?_
  refine wp_seq ?_
  refine wp_region_lit ?_
  refine sq (opk_val hA21 rfl (r_fieldAddr (hA21.get rfl) Try.underlying42 rfl ti_9 (by decide)) fun a22 hA22 _ => ?_)
  refine sq (opk_val hA22 rfl (r_load1 Try.underlying9 rfl (hA22.get rfl) (hB18.cell 5 _ rfl)) fun a23 hA23 _ => ?_)
  refine sq (opk_val hA23 rfl (r_build (vs := #[(5, .string (Bs o_1_Name))]) (cells := #[.int .i64 0, .int .i64 0, .int .i64 0, .int .i64 0, .int .i64 0, .string (Bs o_1_Name), .string (Bs ([] : Str))]) (map_arr2 (ml2_cons (hA23.get rfl) (ml2_nil))) ti_42 Try.underlying42 pl_42 (by kernel_rfl)) fun a24 hA24 _ => ?_)
  refine sq (opk_store hA24 hB15 (r_store (vs := [.int .i64 0, .int .i64 0, .int .i64 0, .int .i64 0, .int .i64 0, .string (Bs o_1_Name), .string (Bs ([] : Str))]) (hA24.get rfl) (hA24.get rfl) rfl ti_42 hB15 rfl (ones_all [.int .i64 0, .int .i64 0, .int .i64 0, .int .i64 0, .int .i64 0, .string (Bs o_1_Name), .string (Bs ([] : Str))] rfl)) fun a26 w25 hS27 hB28 hA26 => ?_)
  have hB29 : Box w25 B_10 42 [.int .i64 0, .int .i64 0, .int .i64 0, .int .i64 0, .int .i64 0, .string (Bs o_1_Name), .string (Bs ([] : Str))] := hB28
  have hB30 := hB18.keep hS27 (by simpa using hne16)
  have hC31 := hC19.storeNew hN17 hS27
  have hN32 := hN20.up hS27.size
  have hN33 := hN17.up hS27.size
  refine sq_end ?_
  have hA34 := hA26.keep [(2, .pointer (some (⟨B_10, 0, none⟩ : Addr)))] ⟨rfl, trivial⟩
  refine then_normal ?_
  refine wp_ret ?_
  have ht35 := ht0 w25 B_2 B_10 hN32 hN33 hne16 hC31
  exact res_all (vs := [.agg #[.int .i64 0, .int .i64 0, .int .i64 0, .int .i64 0, .int .i64 0, .string (Bs o_1_Name), .string (Bs ([] : Str))]]) rfl hA34 ⟨res_of_cell hA34 rfl hB29 Try.underlying42 rfl ti_42, trivial⟩ ht35

/-- The condition of topiary/apply.calls.12. -/
def apply_calls_12.vc (o_1_Kind : Int) (o_1_ID : Int) (o_1_Parent : Int) (o_1_At : Int) (o_1_What : Int) (o_1_Name : Str) (o_1_Text : Str) (R : Value → World → Prop) (w : World) : Prop :=
∀ (w25 : World) (B_2 : Nat) (B_10 : Nat), New w B_2 w25 → New w B_10 w25 → B_2 ≠ B_10 → Chg [] w w25 →
R (.agg #[.int .i64 0, .int .i64 0, .int .i64 0, .int .i64 0, .int .i64 0, .string (Bs ([] : Str)), .string (Bs o_1_Text)]) w25
set_option maxHeartbeats 1000000 in
set_option maxRecDepth 10000 in
theorem apply_calls_12.ok (o_1_Kind : Int) (o_1_ID : Int) (o_1_Parent : Int) (o_1_At : Int) (o_1_What : Int) (o_1_Name : Str) (o_1_Text : Str) {R : Value → World → Prop} {w : World} (ht0 : apply_calls_12.vc o_1_Kind o_1_ID o_1_Parent o_1_At o_1_What o_1_Name o_1_Text R w) : Calls Try.prog 68 #[.agg #[.int .i64 o_1_Kind, .int .i64 o_1_ID, .int .i64 o_1_Parent, .int .i64 o_1_At, .int .i64 o_1_What, .string (Bs o_1_Name), .string (Bs o_1_Text)]] w (Ret R) := by
  refine enter [.agg #[.int .i64 o_1_Kind, .int .i64 o_1_ID, .int .i64 o_1_Parent, .int .i64 o_1_At, .int .i64 o_1_What, .string (Bs o_1_Name), .string (Bs o_1_Text)]] Try.func68 rfl Try.ntmps68 rfl ?_
  intro a0 hA0
  unfold apply_calls_12.vc at ht0
  refine wp_seq ?_
  refine wp_region_lit ?_
  refine sq (opk_new (fun B => .pointer (some ⟨B, 0, none⟩)) hA0 rfl (r_box (cs := [.int .i64 o_1_Kind, .int .i64 o_1_ID, .int .i64 o_1_Parent, .int .i64 o_1_At, .int .i64 o_1_What, .string (Bs o_1_Name), .string (Bs o_1_Text)]) (hA0.get rfl) rfl) fun a4 w3 B_2 hE5 hN6 hB7 hA4 _ => ?_)
  have hN8 : New w B_2 w3 := hN6
  have hC9 : Chg [] w w3 := hE5
  refine sq (opk_new (fun B => .pointer (some ⟨B, 0, none⟩)) hA4 rfl (r_alloc (cs := [.int .i64 0, .int .i64 0, .int .i64 0, .int .i64 0, .int .i64 0, .string (Bs ([] : Str)), .string (Bs ([] : Str))]) ti_42 rfl) fun a12 w11 B_10 hE13 hN14 hB15 hA12 _ => ?_)
  have hne16 : B_2 ≠ B_10 := Nat.ne_of_lt (Nat.lt_of_lt_of_le hB7.lt hN14.ge)
  have hN17 := New.of hC9 hN14
  have hB18 := hB7.ext hE13
  have hC19 := hC9.more hE13
  have hN20 := hN8.up hE13.size
  refine sq_end ?_
  have hA21 := hA12.keep [(1, .pointer (some (⟨B_2, 0, none⟩ : Addr))), (2, .pointer (some (⟨B_10, 0, none⟩ : Addr)))] ⟨rfl, rfl, trivial⟩
  refine then_normal ?_
  refine wp_seq ?_
  refine wp_region_lit ?_
  refine sq (opk_val hA21 rfl (r_fieldAddr (hA21.get rfl) Try.underlying42 rfl ti_9 (by decide)) fun a22 hA22 _ => ?_)
  refine sq (opk_val hA22 rfl (r_load1 Try.underlying9 rfl (hA22.get rfl) (hB18.cell 6 _ rfl)) fun a23 hA23 _ => ?_)
  refine sq (opk_val hA23 rfl (r_build (vs := #[(6, .string (Bs o_1_Text))]) (cells := #[.int .i64 0, .int .i64 0, .int .i64 0, .int .i64 0, .int .i64 0, .string (Bs ([] : Str)), .string (Bs o_1_Text)]) (map_arr2 (ml2_cons (hA23.get rfl) (ml2_nil))) ti_42 Try.underlying42 pl_42 (by kernel_rfl)) fun a24 hA24 _ => ?_)
  refine sq (opk_store hA24 hB15 (r_store (vs := [.int .i64 0, .int .i64 0, .int .i64 0, .int .i64 0, .int .i64 0, .string (Bs ([] : Str)), .string (Bs o_1_Text)]) (hA24.get rfl) (hA24.get rfl) rfl ti_42 hB15 rfl (ones_all [.int .i64 0, .int .i64 0, .int .i64 0, .int .i64 0, .int .i64 0, .string (Bs ([] : Str)), .string (Bs o_1_Text)] rfl)) fun a26 w25 hS27 hB28 hA26 => ?_)
  have hB29 : Box w25 B_10 42 [.int .i64 0, .int .i64 0, .int .i64 0, .int .i64 0, .int .i64 0, .string (Bs ([] : Str)), .string (Bs o_1_Text)] := hB28
  have hB30 := hB18.keep hS27 (by simpa using hne16)
  have hC31 := hC19.storeNew hN17 hS27
  have hN32 := hN20.up hS27.size
  have hN33 := hN17.up hS27.size
  refine sq_end ?_
  have hA34 := hA26.keep [(2, .pointer (some (⟨B_10, 0, none⟩ : Addr)))] ⟨rfl, trivial⟩
  refine then_normal ?_
  refine wp_ret ?_
  have ht35 := ht0 w25 B_2 B_10 hN32 hN33 hne16 hC31
  exact res_all (vs := [.agg #[.int .i64 0, .int .i64 0, .int .i64 0, .int .i64 0, .int .i64 0, .string (Bs ([] : Str)), .string (Bs o_1_Text)]]) rfl hA34 ⟨res_of_cell hA34 rfl hB29 Try.underlying42 rfl ti_42, trivial⟩ ht35

end Go.Proofs.Yteacalmdpoblpaa
