/-
  PRINTED BY PROGRAM: for each function its condition (vc), and that this suffices (ok).
-/
import Derived.Test.YtnmpenfpajfoaaaDoorGT
namespace Go.Proofs.YtnmpenfpajfoaaaDoor
open Go.RowKit
set_option linter.unusedVariables false

/-- The condition of topiary/topiarylaw12.StackCounts. -/
def law12_StackCounts.vc (l_1 : Sl) (name_2 : Int) (R : Value → World → Prop) (w : World) : Prop :=
∀ (w14 : World) (B_6 : Nat), New w B_6 w14 → Chg [] w w14 →
∃ (J_29 : Sl → Int → World → Prop) (mu_30 : Sl → Int → World → Nat),
J_29 Sl.nil 0 w14 ∧
(∀ (o_26 : Sl) (i_27 : Int) (w28 : World), J_29 o_26 i_27 w28 →
(((i_27 < (l_1.n : Int)) ∧ (i_27 < 30)) →
((0 : Int) ≤ i_27 ∧ i_27 < (l_1.n : Int)) ∧ ∃ p_119 : Addr, l_1.a = some p_119 ∧
∃ (x_125 : Int), (w28.cell? (p_119.add (i_27.toNat * 1)) = some (.int .i64 x_125)) ∧
CallK Tryd.prog 13 #[.int .i64 x_125, .int .i64 6] w28 [B_6] (fun v w130 => ∃ (r_128 : Int), v = .int .i64 r_128 ∧
((0 : Int) ≤ r_128 ∧ r_128 < 6) ∧
∀ (w142 : World) (B_141 : Nat), New w130 B_141 w142 → Chg [] w130 w142 →
∀ (_ : Box w142 B_141 9 [.string (Bs (([([112] : Str), ([108, 105] : Str), ([100, 100] : Str), ([100, 105, 118] : Str), ([98] : Str), ([111, 112, 116, 105, 111, 110] : Str)] : List Str).getD r_128.toNat []))]),
RunK Tryd.prog (Builtin.append_ #[22, 22] 22 #[Sl.v o_26, Sl.v (Sl.mk (some ⟨B_141, 0, none⟩) 1 1)]) w142 [B_6] (fun v w154 => ∃ (r_160 : Sl), v = Sl.v r_160 ∧
(I64 (i_27 + 1)) ∧
J_29 r_160 (i_27 + 1) w154 ∧ mu_30 r_160 (i_27 + 1) w154 < mu_30 o_26 i_27 w28))) ∧
(((¬ (i_27 < (l_1.n : Int))) ∨ (¬ (i_27 < 30))) →
CallK Tryd.prog 13 #[.int .i64 name_2, .int .i64 6] w28 [B_6] (fun v w175 => ∃ (r_173 : Int), v = .int .i64 r_173 ∧
((0 : Int) ≤ r_173 ∧ r_173 < 6) ∧
CallK Tryd.prog 16 #[Sl.v o_26, .string (Bs (([([112] : Str), ([108, 105] : Str), ([100, 100] : Str), ([100, 105, 118] : Str), ([98] : Str), ([111, 112, 116, 105, 111, 110] : Str)] : List Str).getD r_173.toNat []))] w175 [] (fun v w192 => ∃ (r_190 : Int), v = .int .i64 r_190 ∧
∃ (J_204 : Int → World → Prop) (mu_205 : Int → World → Nat),
J_204 0 w192 ∧
(∀ (i_202 : Int) (w203 : World), J_204 i_202 w203 →
((i_202 < (o_26.n : Int)) →
(I64 ((o_26.n : Int) - 1)) ∧
(I64 (((o_26.n : Int) - 1) - i_202)) ∧
((0 : Int) ≤ ((o_26.n : Int) - 1) - i_202 ∧ ((o_26.n : Int) - 1) - i_202 < (o_26.n : Int)) ∧ ∃ p_296 : Addr, o_26.a = some p_296 ∧
∃ (x_302 : Str), (w203.cell? (p_296.add ((((o_26.n : Int) - 1) - i_202).toNat * 1)) = some (.string (Bs x_302))) ∧
((((i_202 < r_190) ∧ (((¬ (x_302 ≠ ([100, 105, 118] : Str))) ∨ (¬ (x_302 ≠ ([98] : Str)))) ∨ (¬ (x_302 ≠ (([([112] : Str), ([108, 105] : Str), ([100, 100] : Str), ([100, 105, 118] : Str), ([98] : Str), ([111, 112, 116, 105, 111, 110] : Str)] : List Str).getD r_173.toNat []))))) ∨ ((i_202 = r_190) ∧ (((x_302 ≠ ([100, 105, 118] : Str)) ∧ (x_302 ≠ ([98] : Str))) ∧ (x_302 ≠ (([([112] : Str), ([108, 105] : Str), ([100, 100] : Str), ([100, 105, 118] : Str), ([98] : Str), ([111, 112, 116, 105, 111, 110] : Str)] : List Str).getD r_173.toNat []))))) →
R (.bool false) w203) ∧
((((¬ (i_202 < r_190)) ∨ (((x_302 ≠ ([100, 105, 118] : Str)) ∧ (x_302 ≠ ([98] : Str))) ∧ (x_302 ≠ (([([112] : Str), ([108, 105] : Str), ([100, 100] : Str), ([100, 105, 118] : Str), ([98] : Str), ([111, 112, 116, 105, 111, 110] : Str)] : List Str).getD r_173.toNat [])))) ∧ ((¬ (i_202 = r_190)) ∨ (((¬ (x_302 ≠ ([100, 105, 118] : Str))) ∨ (¬ (x_302 ≠ ([98] : Str)))) ∨ (¬ (x_302 ≠ (([([112] : Str), ([108, 105] : Str), ([100, 100] : Str), ([100, 105, 118] : Str), ([98] : Str), ([111, 112, 116, 105, 111, 110] : Str)] : List Str).getD r_173.toNat [])))))) →
(I64 (i_202 + 1)) ∧
J_204 (i_202 + 1) w203 ∧ mu_205 (i_202 + 1) w203 < mu_205 i_202 w203)) ∧
((¬ (i_202 < (o_26.n : Int))) →
∀ (w351 : World) (B_350 : Nat), New w203 B_350 w351 → Chg [] w203 w351 →
∀ (_ : Box w351 B_350 9 [.string (Bs (([([112] : Str), ([108, 105] : Str), ([100, 100] : Str), ([100, 105, 118] : Str), ([98] : Str), ([111, 112, 116, 105, 111, 110] : Str)] : List Str).getD r_173.toNat []))]),
CallK Tryd.prog 18 #[Sl.v o_26, Sl.v (Sl.mk (some ⟨B_350, 0, none⟩) 1 1)] w351 [] (fun v w362 => ∃ (r_360 : Int), v = .int .i64 r_360 ∧
∃ (J_374 : Int → World → Prop) (mu_375 : Int → World → Nat),
J_374 1 w362 ∧
(∀ (i_372 : Int) (w373 : World), J_374 i_372 w373 →
((i_372 < r_360) →
(I64 ((o_26.n : Int) - i_372)) ∧
((0 : Int) ≤ (o_26.n : Int) - i_372 ∧ (o_26.n : Int) - i_372 < (o_26.n : Int)) ∧ ∃ p_430 : Addr, o_26.a = some p_430 ∧
∃ (x_436 : Str), (w373.cell? (p_430.add (((o_26.n : Int) - i_372).toNat * 1)) = some (.string (Bs x_436))) ∧
((x_436 = (([([112] : Str), ([108, 105] : Str), ([100, 100] : Str), ([100, 105, 118] : Str), ([98] : Str), ([111, 112, 116, 105, 111, 110] : Str)] : List Str).getD r_173.toNat [])) →
R (.bool false) w373) ∧
((¬ (x_436 = (([([112] : Str), ([108, 105] : Str), ([100, 100] : Str), ([100, 105, 118] : Str), ([98] : Str), ([111, 112, 116, 105, 111, 110] : Str)] : List Str).getD r_173.toNat []))) →
(I64 (i_372 + 1)) ∧
J_374 (i_372 + 1) w373 ∧ mu_375 (i_372 + 1) w373 < mu_375 i_372 w373)) ∧
((¬ (i_372 < r_360)) →
((((r_190 ≤ (o_26.n : Int)) ∧ (r_360 ≤ (o_26.n : Int))) ∧ (¬ (r_360 = 0))) → I64 ((o_26.n : Int) - r_360)) ∧
∃ p_475 : Addr, ((((r_190 ≤ (o_26.n : Int)) ∧ (r_360 ≤ (o_26.n : Int))) ∧ (¬ (r_360 = 0))) → ((0 : Int) ≤ (o_26.n : Int) - r_360 ∧ (o_26.n : Int) - r_360 < (o_26.n : Int)) ∧  o_26.a = some p_475) ∧
∃ (x_481 : Str), ((((r_190 ≤ (o_26.n : Int)) ∧ (r_360 ≤ (o_26.n : Int))) ∧ (¬ (r_360 = 0))) → w373.cell? (p_475.add (((o_26.n : Int) - r_360).toNat * 1)) = some (.string (Bs x_481))) ∧
∃ (r_490 : Int), (((((r_190 ≤ (o_26.n : Int)) ∧ (r_360 ≤ (o_26.n : Int))) ∧ ((r_360 = 0) ∨ (x_481 = (([([112] : Str), ([108, 105] : Str), ([100, 100] : Str), ([100, 105, 118] : Str), ([98] : Str), ([111, 112, 116, 105, 111, 110] : Str)] : List Str).getD r_173.toNat []))))) → Calls Tryd.prog 18 #[Sl.v o_26, Sl.v Sl.nil] w373 (Ret fun v w' => Ext w373 w' ∧ v = .int .i64 r_490)) ∧
(∀ w492 : World, Ext w373 w492 →
∃ (r_505 : Bool), ((((((r_190 ≤ (o_26.n : Int)) ∧ (r_360 ≤ (o_26.n : Int))) ∧ ((r_360 = 0) ∨ (x_481 = (([([112] : Str), ([108, 105] : Str), ([100, 100] : Str), ([100, 105, 118] : Str), ([98] : Str), ([111, 112, 116, 105, 111, 110] : Str)] : List Str).getD r_173.toNat [])))) ∧ (r_490 = 0))) → Calls Tryd.prog 14 #[Sl.v o_26, .string (Bs (([([112] : Str), ([108, 105] : Str), ([100, 100] : Str), ([100, 105, 118] : Str), ([98] : Str), ([111, 112, 116, 105, 111, 110] : Str)] : List Str).getD r_173.toNat [])), .int .i64 4] w492 (Ret fun v w' => Ext w492 w' ∧ v = .bool r_505)) ∧
(∀ w507 : World, Ext w492 w507 →
∃ (r_516 : Bool), (((((((r_190 ≤ (o_26.n : Int)) ∧ (r_360 ≤ (o_26.n : Int))) ∧ ((r_360 = 0) ∨ (x_481 = (([([112] : Str), ([108, 105] : Str), ([100, 100] : Str), ([100, 105, 118] : Str), ([98] : Str), ([111, 112, 116, 105, 111, 110] : Str)] : List Str).getD r_173.toNat [])))) ∧ (r_490 = 0)) ∧ (((decide (0 < r_360)) == r_505) = true))) → Calls Tryd.prog 11 #[] w507 (Ret fun v w' => Ext w507 w' ∧ v = .bool r_516)) ∧
(∀ w518 : World, Ext w507 w518 →
R (.bool ((((((decide (r_190 ≤ (o_26.n : Int))) && (decide (r_360 ≤ (o_26.n : Int)))) && ((decide (r_360 = 0)) || (decide (x_481 = (([([112] : Str), ([108, 105] : Str), ([100, 100] : Str), ([100, 105, 118] : Str), ([98] : Str), ([111, 112, 116, 105, 111, 110] : Str)] : List Str).getD r_173.toNat []))))) && (decide (r_490 = 0))) && ((decide (0 < r_360)) == r_505)) && r_516)) w518))))))))))))
set_option maxHeartbeats 1000000 in
set_option maxRecDepth 10000 in
theorem law12_StackCounts.ok (l_1 : Sl) (name_2 : Int) {R : Value → World → Prop} {w : World} (ht0 : law12_StackCounts.vc l_1 name_2 R w) : Calls Tryd.prog 7 #[Sl.v l_1, .int .i64 name_2] w (Ret R) := by
  refine enter [Sl.v l_1, .int .i64 name_2] Tryd.func7 rfl Tryd.ntmps7 rfl ?_
  intro a0 hA0
  unfold law12_StackCounts.vc at ht0
  refine wp_seq ?_
  refine wp_region_lit ?_
  refine sq (opk_val hA0 rfl (r_assign rfl) fun a3 hA3 _ => ?_)
  refine sq_end ?_
  have hA4 := hA3.keep [(0, Sl.v l_1), (1, .int .i64 name_2)] ⟨rfl, rfl, trivial⟩
  refine then_normal ?_
  refine wp_seq ?_
  refine wp_region_lit ?_
  refine sq (opk_val hA4 rfl (r_buildA (vs := #[(0, .string (Bs ([112] : Str))), (1, .string (Bs ([108, 105] : Str))), (2, .string (Bs ([100, 100] : Str))), (3, .string (Bs ([100, 105, 118] : Str))), (4, .string (Bs ([98] : Str))), (5, .string (Bs ([111, 112, 116, 105, 111, 110] : Str)))]) (cells := #[.string (Bs ([112] : Str)), .string (Bs ([108, 105] : Str)), .string (Bs ([100, 100] : Str)), .string (Bs ([100, 105, 118] : Str)), .string (Bs ([98] : Str)), .string (Bs ([111, 112, 116, 105, 111, 110] : Str))]) (map_arr2 (ml2_cons rfl (ml2_cons rfl (ml2_cons rfl (ml2_cons rfl (ml2_cons rfl (ml2_cons rfl (ml2_nil)))))))) ti_37 Tryd.underlying37 ti_9 (by kernel_rfl)) fun a5 hA5 _ => ?_)
  refine sq (opk_new (fun B => .pointer (some ⟨B, 0, none⟩)) hA5 rfl (r_alloc (cs := [.string (Bs ([] : Str)), .string (Bs ([] : Str)), .string (Bs ([] : Str)), .string (Bs ([] : Str)), .string (Bs ([] : Str)), .string (Bs ([] : Str))]) ti_37 rfl) fun a8 w7 B_6 hE9 hN10 hB11 hA8 _ => ?_)
  have hN12 : New w B_6 w7 := hN10
  have hC13 : Chg [] w w7 := hE9
  refine sq (opk_store hA8 hB11 (r_store (vs := [.string (Bs ([112] : Str)), .string (Bs ([108, 105] : Str)), .string (Bs ([100, 100] : Str)), .string (Bs ([100, 105, 118] : Str)), .string (Bs ([98] : Str)), .string (Bs ([111, 112, 116, 105, 111, 110] : Str))]) (hA8.get rfl) (hA8.get rfl) rfl ti_37 hB11 rfl (ones_all [.string (Bs ([112] : Str)), .string (Bs ([108, 105] : Str)), .string (Bs ([100, 100] : Str)), .string (Bs ([100, 105, 118] : Str)), .string (Bs ([98] : Str)), .string (Bs ([111, 112, 116, 105, 111, 110] : Str))] rfl)) fun a15 w14 hS16 hB17 hA15 => ?_)
  have hB18 : Box w14 B_6 37 [.string (Bs ([112] : Str)), .string (Bs ([108, 105] : Str)), .string (Bs ([100, 100] : Str)), .string (Bs ([100, 105, 118] : Str)), .string (Bs ([98] : Str)), .string (Bs ([111, 112, 116, 105, 111, 110] : Str))] := hB17
  have hC19 := hC13.storeNew hN12 hS16
  have hN20 := hN12.up hS16.size
  refine sq_end ?_
  have hA21 := hA15.keep [(0, Sl.v l_1), (1, .int .i64 name_2), (5, .pointer (some ⟨B_6, 0, none⟩))] ⟨rfl, rfl, rfl, trivial⟩
  refine then_normal ?_
  refine wp_seq ?_
  refine wp_region_lit ?_
  refine sq (opk_val hA21 rfl (r_assign rfl) fun a22 hA22 _ => ?_)
  refine sq_end ?_
  have hA23 := hA22.keep [(0, Sl.v l_1), (1, .int .i64 name_2), (5, .pointer (some ⟨B_6, 0, none⟩)), (6, Sl.v Sl.nil)] ⟨rfl, rfl, rfl, rfl, trivial⟩
  refine then_normal ?_
  refine wp_seq ?_
  refine wp_seq ?_
  refine wp_region_lit ?_
  refine sq (opk_val hA23 rfl (r_assign rfl) fun a24 hA24 _ => ?_)
  refine sq_end ?_
  have hA25 := hA24.keep [(0, Sl.v l_1), (1, .int .i64 name_2), (5, .pointer (some ⟨B_6, 0, none⟩)), (6, Sl.v Sl.nil), (7, .int .i64 0)] ⟨rfl, rfl, rfl, rfl, rfl, trivial⟩
  refine then_normal ?_
  refine wp_block ?_
  have ht98 := ht0 w14 B_6 hN20  hC19
  obtain ⟨J_29, mu_30, h0102, ht101⟩ := ht98
  refine wp_loop_st (σ := Sl × Int × World) (fun s a w => Ag 142 a [(0, Sl.v l_1), (1, .int .i64 name_2), (5, .pointer (some ⟨B_6, 0, none⟩)), (6, Sl.v s.1), (7, .int .i64 s.2.1)] ∧ Box w B_6 37 [.string (Bs ([112] : Str)), .string (Bs ([108, 105] : Str)), .string (Bs ([100, 100] : Str)), .string (Bs ([100, 105, 118] : Str)), .string (Bs ([98] : Str)), .string (Bs ([111, 112, 116, 105, 111, 110] : Str))] ∧ w = s.2.2 ∧ J_29 s.1 s.2.1 s.2.2) (fun s => mu_30 s.1 s.2.1 s.2.2) (Sl.nil, 0, w14) ⟨hA25.keep [(0, Sl.v l_1), (1, .int .i64 name_2), (5, .pointer (some ⟨B_6, 0, none⟩)), (6, Sl.v Sl.nil), (7, .int .i64 0)] ⟨rfl, rfl, rfl, rfl, rfl, trivial⟩, hB18, rfl, h0102⟩ ?_
  rintro ⟨o_26, i_27, w28⟩ a99 w_ ⟨hA99, hB100, hw_, hJ104⟩
  have hw_ : w28 = w_ := hw_.symm
  subst hw_
  have ht103 := ht101 o_26 i_27 _ hJ104
  refine wp_seq ?_
  refine wp_seq ?_
  refine wp_region_lit ?_
  refine sq (opk_val hA99 rfl (r_move (hA99.get rfl)) fun a105 hA105 _ => ?_)
  refine sq (opk_val hA105 rfl (r_move (hA105.get rfl)) fun a106 hA106 _ => ?_)
  refine sq (opk_val hA106 rfl (r_len (hA106.get rfl) Tryd.underlying36) fun a107 hA107 _ => ?_)
  refine sq (opk_val hA107 rfl (r_lss (hA107.get rfl) (hA107.get rfl)) fun a108 hA108 _ => ?_)
  refine sq (opk_val hA108 rfl (r_move (hA108.get rfl)) fun a109 hA109 _ => ?_)
  refine sq (opk_gval hA109 rfl rfl (g := true) (e := (decide (i_27 < (l_1.n : Int)))) rfl (fun hg => r_move (hA109.get rfl)) fun a110 hA110 _ => ?_)
  refine sq (opk_gval hA110 rfl rfl (g := true) (e := (decide (i_27 < (l_1.n : Int)))) rfl (fun hg => r_lss (cv_get (hA110.get rfl) hg) rfl) fun a111 hA111 _ => ?_)
  refine sq (opk_val hA111 rfl (r_pick_and (g := (true && ((decide (i_27 < (l_1.n : Int))) == true))) (hA111.get rfl) (hA111.get rfl) (fun he => g_mkt rfl he)) fun a112 hA112 _ => ?_)
  refine sq_end ?_
  have hA113 := hA112.keep [(0, Sl.v l_1), (1, .int .i64 name_2), (5, .pointer (some ⟨B_6, 0, none⟩)), (6, Sl.v o_26), (7, .int .i64 i_27), (23, .bool ((decide (i_27 < (l_1.n : Int))) && (decide (i_27 < 30))))] ⟨rfl, rfl, rfl, rfl, rfl, rfl, trivial⟩
  refine then_normal ?_
  refine wp_cond_split (hA113.get rfl) (fun hc => ?_) (fun hc => ?_)
  · have ht114 := ht103.1 ⟨(of_decide_eq_true (b_and_t hc).1), (of_decide_eq_true (b_and_t hc).2)⟩
    clear hc
    refine wp_skip ?_
    refine then_normal ?_
    refine wp_seq ?_
    refine wp_block ?_
    refine wp_region_lit ?_
    refine sq (opk_val hA113 rfl (r_move (hA113.get rfl)) fun a116 hA116 _ => ?_)
    refine sq (opk_val hA116 rfl (r_move (hA116.get rfl)) fun a117 hA117 _ => ?_)
    refine sq (opk_val hA117 rfl (r_move (hA117.get rfl)) fun a118 hA118 _ => ?_)
    obtain ⟨hb120, p_119, hp121, ht122⟩ := ht114
    refine sq (opk_val hA118 rfl (r_indexAddr (hA118.get rfl) (hA118.get rfl) Tryd.underlying36 ti_3 hb120 hp121) fun a123 hA123 _ => ?_)
    obtain ⟨x_125, hx126, ht127⟩ := ht122
    refine sq (opk_val hA123 rfl (r_load1 Tryd.underlying3 rfl (hA123.get rfl) hx126) fun a124 hA124 _ => ?_)
    refine sq (opk_call hA124 rfl (r_call (args := #[.int .i64 x_125, .int .i64 6]) Tryd.func13 (by decide) rfl (map_arr (ml_cons (hA124.get rfl) (ml_cons rfl ml_nil))) rfl) ht127 fun a129 v135 w130 hA129 _ hn132 hz133 hK134 => ?_)
    obtain ⟨r_128, rfl, ht131⟩ := hK134
    have hB136 := hB100.kept hn132 (.head _)
    obtain ⟨hS138, ht139⟩ := ht131
    refine sq (opk_val hA129 rfl (r_indexAddrA (hA129.get rfl) (hA129.get rfl) Tryd.underlying37 ti_9 hS138) fun a137 hA137 _ => ?_)
    refine sq (opk_val hA137 rfl (r_load1 Tryd.underlying9 rfl (hA137.get rfl) (Box.cellA ([([112] : Str), ([108, 105] : Str), ([100, 100] : Str), ([100, 105, 118] : Str), ([98] : Str), ([111, 112, 116, 105, 111, 110] : Str)] : List Str) (fun s => Value.string (Bs s)) [] hB136 rfl rfl hS138)) fun a140 hA140 _ => ?_)
    refine sq (opk_new (fun B => .slice (some ⟨B, 0, none⟩) 1 1) hA140 rfl (r_buildSlice (vs := #[(0, .string (Bs (([([112] : Str), ([108, 105] : Str), ([100, 100] : Str), ([100, 105, 118] : Str), ([98] : Str), ([111, 112, 116, 105, 111, 110] : Str)] : List Str).getD r_128.toNat [])))]) (cs := [.string (Bs (([([112] : Str), ([108, 105] : Str), ([100, 100] : Str), ([100, 105, 118] : Str), ([98] : Str), ([111, 112, 116, 105, 111, 110] : Str)] : List Str).getD r_128.toNat []))]) (map_arr2 (ml2_cons (hA140.get rfl) (ml2_nil))) Tryd.underlying22 ti_9 rfl rfl (by kernel_rfl)) fun a143 w142 B_141 hE144 hN145 hB146 hA143 _ => ?_)
    have hne147 : B_6 ≠ B_141 := Nat.ne_of_lt (Nat.lt_of_lt_of_le hB136.lt hN145.ge)
    have hN148 : New w130 B_141 w142 := hN145
    have hB149 := hB136.ext hE144
    have hC150 : Chg [] w130 w142 := hE144
    have ht151 := ht139 w142 B_141 hN148  hC150
    have ht152 := ht151 hB146
    refine sq (opk_run hA143 rfl (fun _ _ hr => r_append (hA143.get rfl) (hA143.get rfl) hr) ht152 fun a153 v159 w154 hA153 _ hn156 hz157 hK158 => ?_)
    obtain ⟨r_160, rfl, ht155⟩ := hK158
    have hB161 := hB149.kept hn156 (.head _)
    refine sq (opk_val hA153 rfl (r_assign (hA153.get rfl)) fun a162 hA162 _ => ?_)
    refine sq_end ?_
    have hA163 := hA162.keep [(0, Sl.v l_1), (1, .int .i64 name_2), (5, .pointer (some ⟨B_6, 0, none⟩)), (6, Sl.v r_160), (7, .int .i64 i_27)] ⟨rfl, rfl, rfl, rfl, rfl, trivial⟩
    refine block_normal ?_
    refine then_normal ?_
    refine wp_region_lit ?_
    refine sq (opk_val hA163 rfl (r_move (hA163.get rfl)) fun a164 hA164 _ => ?_)
    obtain ⟨hS166, ht167⟩ := ht155
    refine sq (opk_val hA164 rfl (r_addI (hA164.get rfl) rfl hS166) fun a165 hA165 _ => ?_)
    refine sq (opk_val hA165 rfl (r_assign (hA165.get rfl)) fun a168 hA168 _ => ?_)
    refine sq_end ?_
    have hA169 := hA168.keep [(0, Sl.v l_1), (1, .int .i64 name_2), (5, .pointer (some ⟨B_6, 0, none⟩)), (6, Sl.v r_160), (7, .int .i64 (i_27 + 1))] ⟨rfl, rfl, rfl, rfl, rfl, trivial⟩
    have hA170 := hA169.keep [(0, Sl.v l_1), (1, .int .i64 name_2), (5, .pointer (some ⟨B_6, 0, none⟩)), (6, Sl.v r_160), (7, .int .i64 (i_27 + 1))] ⟨rfl, rfl, rfl, rfl, rfl, trivial⟩
    exact then_normal ⟨(r_160, i_27 + 1, w154), ⟨hA170, hB161, rfl, ht167.1⟩, ht167.2⟩
  · have ht115 := ht103.2 ((b_and_f hc).imp (fun h => (of_decide_eq_false h)) (fun h => (of_decide_eq_false h)))
    clear hc
    refine wp_exit ?_
    refine then_exit ?_
    refine then_exit ?_
    refine block_hit ?_
    have hA171 := hA113.keep [(1, .int .i64 name_2), (5, .pointer (some ⟨B_6, 0, none⟩)), (6, Sl.v o_26)] ⟨rfl, rfl, rfl, trivial⟩
    refine then_normal ?_
    refine wp_seq ?_
    refine wp_region_lit ?_
    refine sq (opk_val hA171 rfl (r_move (hA171.get rfl)) fun a172 hA172 _ => ?_)
    refine sq (opk_call hA172 rfl (r_call (args := #[.int .i64 name_2, .int .i64 6]) Tryd.func13 (by decide) rfl (map_arr (ml_cons (hA172.get rfl) (ml_cons rfl ml_nil))) rfl) ht115 fun a174 v180 w175 hA174 _ hn177 hz178 hK179 => ?_)
    obtain ⟨r_173, rfl, ht176⟩ := hK179
    have hB181 := hB100.kept hn177 (.head _)
    obtain ⟨hS183, ht184⟩ := ht176
    refine sq (opk_val hA174 rfl (r_indexAddrA (hA174.get rfl) (hA174.get rfl) Tryd.underlying37 ti_9 hS183) fun a182 hA182 _ => ?_)
    refine sq (opk_val hA182 rfl (r_load1 Tryd.underlying9 rfl (hA182.get rfl) (Box.cellA ([([112] : Str), ([108, 105] : Str), ([100, 100] : Str), ([100, 105, 118] : Str), ([98] : Str), ([111, 112, 116, 105, 111, 110] : Str)] : List Str) (fun s => Value.string (Bs s)) [] hB181 rfl rfl hS183)) fun a185 hA185 _ => ?_)
    refine sq (opk_val hA185 rfl (r_assign (hA185.get rfl)) fun a186 hA186 _ => ?_)
    refine sq_end ?_
    have hA187 := hA186.keep [(6, Sl.v o_26), (8, .string (Bs (([([112] : Str), ([108, 105] : Str), ([100, 100] : Str), ([100, 105, 118] : Str), ([98] : Str), ([111, 112, 116, 105, 111, 110] : Str)] : List Str).getD r_173.toNat [])))] ⟨rfl, rfl, trivial⟩
    refine then_normal ?_
    refine wp_seq ?_
    refine wp_region_lit ?_
    refine sq (opk_val hA187 rfl (r_move (hA187.get rfl)) fun a188 hA188 _ => ?_)
    refine sq (opk_val hA188 rfl (r_move (hA188.get rfl)) fun a189 hA189 _ => ?_)
    refine sq (opk_call hA189 rfl (r_call (args := #[Sl.v o_26, .string (Bs (([([112] : Str), ([108, 105] : Str), ([100, 100] : Str), ([100, 105, 118] : Str), ([98] : Str), ([111, 112, 116, 105, 111, 110] : Str)] : List Str).getD r_173.toNat []))]) Tryd.func16 (by decide) rfl (map_arr (ml_cons (hA189.get rfl) (ml_cons (hA189.get rfl) ml_nil))) rfl) ht184 fun a191 v197 w192 hA191 _ hn194 hz195 hK196 => ?_)
    obtain ⟨r_190, rfl, ht193⟩ := hK196
    refine sq (opk_val hA191 rfl (r_assign (hA191.get rfl)) fun a198 hA198 _ => ?_)
    refine sq_end ?_
    have hA199 := hA198.keep [(6, Sl.v o_26), (8, .string (Bs (([([112] : Str), ([108, 105] : Str), ([100, 100] : Str), ([100, 105, 118] : Str), ([98] : Str), ([111, 112, 116, 105, 111, 110] : Str)] : List Str).getD r_173.toNat []))), (9, .int .i64 r_190)] ⟨rfl, rfl, rfl, trivial⟩
    refine then_normal ?_
    refine wp_seq ?_
    refine wp_seq ?_
    refine wp_region_lit ?_
    refine sq (opk_val hA199 rfl (r_assign rfl) fun a200 hA200 _ => ?_)
    refine sq_end ?_
    have hA201 := hA200.keep [(6, Sl.v o_26), (8, .string (Bs (([([112] : Str), ([108, 105] : Str), ([100, 100] : Str), ([100, 105, 118] : Str), ([98] : Str), ([111, 112, 116, 105, 111, 110] : Str)] : List Str).getD r_173.toNat []))), (9, .int .i64 r_190), (10, .int .i64 0)] ⟨rfl, rfl, rfl, rfl, trivial⟩
    refine then_normal ?_
    refine wp_block ?_
    obtain ⟨J_204, mu_205, h0276, ht275⟩ := ht193
    refine wp_loop_st (σ := Int × World) (fun s a w => Ag 142 a [(6, Sl.v o_26), (8, .string (Bs (([([112] : Str), ([108, 105] : Str), ([100, 100] : Str), ([100, 105, 118] : Str), ([98] : Str), ([111, 112, 116, 105, 111, 110] : Str)] : List Str).getD r_173.toNat []))), (9, .int .i64 r_190), (10, .int .i64 s.1)] ∧ w = s.2 ∧ J_204 s.1 s.2) (fun s => mu_205 s.1 s.2) (0, w192) ⟨hA201.keep [(6, Sl.v o_26), (8, .string (Bs (([([112] : Str), ([108, 105] : Str), ([100, 100] : Str), ([100, 105, 118] : Str), ([98] : Str), ([111, 112, 116, 105, 111, 110] : Str)] : List Str).getD r_173.toNat []))), (9, .int .i64 r_190), (10, .int .i64 0)] ⟨rfl, rfl, rfl, rfl, trivial⟩, rfl, h0276⟩ ?_
    rintro ⟨i_202, w203⟩ a274 w_ ⟨hA274, hw_, hJ278⟩
    have hw_ : w203 = w_ := hw_.symm
    subst hw_
    have ht277 := ht275 i_202 _ hJ278
    refine wp_seq ?_
    refine wp_seq ?_
    refine wp_region_lit ?_
    refine sq (opk_val hA274 rfl (r_move (hA274.get rfl)) fun a279 hA279 _ => ?_)
    refine sq (opk_val hA279 rfl (r_move (hA279.get rfl)) fun a280 hA280 _ => ?_)
    refine sq (opk_val hA280 rfl (r_len (hA280.get rfl) Tryd.underlying22) fun a281 hA281 _ => ?_)
    refine sq (opk_val hA281 rfl (r_lss (hA281.get rfl) (hA281.get rfl)) fun a282 hA282 _ => ?_)
    refine sq_end ?_
    have hA283 := hA282.keep [(6, Sl.v o_26), (8, .string (Bs (([([112] : Str), ([108, 105] : Str), ([100, 100] : Str), ([100, 105, 118] : Str), ([98] : Str), ([111, 112, 116, 105, 111, 110] : Str)] : List Str).getD r_173.toNat []))), (9, .int .i64 r_190), (10, .int .i64 i_202), (46, .bool (decide (i_202 < (o_26.n : Int))))] ⟨rfl, rfl, rfl, rfl, rfl, trivial⟩
    refine then_normal ?_
    refine wp_cond_split (hA283.get rfl) (fun hc => ?_) (fun hc => ?_)
    · have ht284 := ht277.1 (of_decide_eq_true hc)
      clear hc
      refine wp_skip ?_
      refine then_normal ?_
      refine wp_seq ?_
      refine wp_block ?_
      refine wp_seq ?_
      refine wp_region_lit ?_
      refine sq (opk_val hA283 rfl (r_move (hA283.get rfl)) fun a286 hA286 _ => ?_)
      refine sq (opk_val hA286 rfl (r_move (hA286.get rfl)) fun a287 hA287 _ => ?_)
      refine sq (opk_val hA287 rfl (r_len (hA287.get rfl) Tryd.underlying22) fun a288 hA288 _ => ?_)
      obtain ⟨hS290, ht291⟩ := ht284
      refine sq (opk_val hA288 rfl (r_subI (hA288.get rfl) rfl hS290) fun a289 hA289 _ => ?_)
      refine sq (opk_val hA289 rfl (r_move (hA289.get rfl)) fun a292 hA292 _ => ?_)
      obtain ⟨hS294, ht295⟩ := ht291
      refine sq (opk_val hA292 rfl (r_subI (hA292.get rfl) (hA292.get rfl) hS294) fun a293 hA293 _ => ?_)
      obtain ⟨hb297, p_296, hp298, ht299⟩ := ht295
      refine sq (opk_val hA293 rfl (r_indexAddr (hA293.get rfl) (hA293.get rfl) Tryd.underlying22 ti_9 hb297 hp298) fun a300 hA300 _ => ?_)
      obtain ⟨x_302, hx303, ht304⟩ := ht299
      refine sq (opk_val hA300 rfl (r_load1 Tryd.underlying9 rfl (hA300.get rfl) hx303) fun a301 hA301 _ => ?_)
      refine sq (opk_val hA301 rfl (r_assign (hA301.get rfl)) fun a305 hA305 _ => ?_)
      refine sq_end ?_
      have hA306 := hA305.keep [(6, Sl.v o_26), (8, .string (Bs (([([112] : Str), ([108, 105] : Str), ([100, 100] : Str), ([100, 105, 118] : Str), ([98] : Str), ([111, 112, 116, 105, 111, 110] : Str)] : List Str).getD r_173.toNat []))), (9, .int .i64 r_190), (10, .int .i64 i_202), (11, .string (Bs x_302))] ⟨rfl, rfl, rfl, rfl, rfl, trivial⟩
      refine then_normal ?_
      refine wp_seq ?_
      refine wp_region_lit ?_
      refine sq (opk_val hA306 rfl (r_move (hA306.get rfl)) fun a307 hA307 _ => ?_)
      refine sq (opk_val hA307 rfl (r_sneq (hA307.get rfl) rfl) fun a308 hA308 _ => ?_)
      refine sq (opk_val hA308 rfl (r_move (hA308.get rfl)) fun a309 hA309 _ => ?_)
      refine sq (opk_gval hA309 rfl rfl (g := true) (e := (decide (x_302 ≠ ([100, 105, 118] : Str)))) rfl (fun hg => r_move (hA309.get rfl)) fun a310 hA310 _ => ?_)
      refine sq (opk_gval hA310 rfl rfl (g := true) (e := (decide (x_302 ≠ ([100, 105, 118] : Str)))) rfl (fun hg => r_sneq (cv_get (hA310.get rfl) hg) rfl) fun a311 hA311 _ => ?_)
      refine sq (opk_val hA311 rfl (r_pick_and (g := (true && ((decide (x_302 ≠ ([100, 105, 118] : Str))) == true))) (hA311.get rfl) (hA311.get rfl) (fun he => g_mkt rfl he)) fun a312 hA312 _ => ?_)
      refine sq (opk_val hA312 rfl (r_move (hA312.get rfl)) fun a313 hA313 _ => ?_)
      refine sq (opk_gval hA313 rfl rfl (g := true) (e := ((decide (x_302 ≠ ([100, 105, 118] : Str))) && (decide (x_302 ≠ ([98] : Str))))) rfl (fun hg => r_move (hA313.get rfl)) fun a314 hA314 _ => ?_)
      refine sq (opk_gval hA314 rfl rfl (g := true) (e := ((decide (x_302 ≠ ([100, 105, 118] : Str))) && (decide (x_302 ≠ ([98] : Str))))) rfl (fun hg => r_move (hA314.get rfl)) fun a315 hA315 _ => ?_)
      refine sq (opk_gval hA315 rfl rfl (g := true) (e := ((decide (x_302 ≠ ([100, 105, 118] : Str))) && (decide (x_302 ≠ ([98] : Str))))) rfl (fun hg => r_sneq (cv_get (hA315.get rfl) hg) (cv_get (hA315.get rfl) hg)) fun a316 hA316 _ => ?_)
      refine sq (opk_val hA316 rfl (r_pick_and (g := (true && (((decide (x_302 ≠ ([100, 105, 118] : Str))) && (decide (x_302 ≠ ([98] : Str)))) == true))) (hA316.get rfl) (hA316.get rfl) (fun he => g_mkt rfl he)) fun a317 hA317 _ => ?_)
      refine sq (opk_val hA317 rfl (r_assign (hA317.get rfl)) fun a318 hA318 _ => ?_)
      refine sq_end ?_
      have hA319 := hA318.keep [(6, Sl.v o_26), (8, .string (Bs (([([112] : Str), ([108, 105] : Str), ([100, 100] : Str), ([100, 105, 118] : Str), ([98] : Str), ([111, 112, 116, 105, 111, 110] : Str)] : List Str).getD r_173.toNat []))), (9, .int .i64 r_190), (10, .int .i64 i_202), (12, .bool (((decide (x_302 ≠ ([100, 105, 118] : Str))) && (decide (x_302 ≠ ([98] : Str)))) && (decide (x_302 ≠ (([([112] : Str), ([108, 105] : Str), ([100, 100] : Str), ([100, 105, 118] : Str), ([98] : Str), ([111, 112, 116, 105, 111, 110] : Str)] : List Str).getD r_173.toNat [])))))] ⟨rfl, rfl, rfl, rfl, rfl, trivial⟩
      refine then_normal ?_
      refine wp_seq ?_
      refine wp_region_lit ?_
      refine sq (opk_val hA319 rfl (r_move (hA319.get rfl)) fun a320 hA320 _ => ?_)
      refine sq (opk_val hA320 rfl (r_move (hA320.get rfl)) fun a321 hA321 _ => ?_)
      refine sq (opk_val hA321 rfl (r_lss (hA321.get rfl) (hA321.get rfl)) fun a322 hA322 _ => ?_)
      refine sq (opk_val hA322 rfl (r_move (hA322.get rfl)) fun a323 hA323 _ => ?_)
      refine sq (opk_gval hA323 rfl rfl (g := true) (e := (decide (i_202 < r_190))) rfl (fun hg => r_move (hA323.get rfl)) fun a324 hA324 _ => ?_)
      refine sq (opk_gval hA324 rfl rfl (g := true) (e := (decide (i_202 < r_190))) rfl (fun hg => r_not (cv_get (hA324.get rfl) hg)) fun a325 hA325 _ => ?_)
      refine sq (opk_val hA325 rfl (r_pick_and (g := (true && ((decide (i_202 < r_190)) == true))) (hA325.get rfl) (hA325.get rfl) (fun he => g_mkt rfl he)) fun a326 hA326 _ => ?_)
      refine sq (opk_val hA326 rfl (r_move (hA326.get rfl)) fun a327 hA327 _ => ?_)
      refine sq (opk_gval hA327 rfl rfl (g := true) (e := ((decide (i_202 < r_190)) && (!(((decide (x_302 ≠ ([100, 105, 118] : Str))) && (decide (x_302 ≠ ([98] : Str)))) && (decide (x_302 ≠ (([([112] : Str), ([108, 105] : Str), ([100, 100] : Str), ([100, 105, 118] : Str), ([98] : Str), ([111, 112, 116, 105, 111, 110] : Str)] : List Str).getD r_173.toNat []))))))) rfl (fun hg => r_move (hA327.get rfl)) fun a328 hA328 _ => ?_)
      refine sq (opk_gval hA328 rfl rfl (g := true) (e := ((decide (i_202 < r_190)) && (!(((decide (x_302 ≠ ([100, 105, 118] : Str))) && (decide (x_302 ≠ ([98] : Str)))) && (decide (x_302 ≠ (([([112] : Str), ([108, 105] : Str), ([100, 100] : Str), ([100, 105, 118] : Str), ([98] : Str), ([111, 112, 116, 105, 111, 110] : Str)] : List Str).getD r_173.toNat []))))))) rfl (fun hg => r_move (hA328.get rfl)) fun a329 hA329 _ => ?_)
      refine sq (opk_gval hA329 rfl rfl (g := true) (e := ((decide (i_202 < r_190)) && (!(((decide (x_302 ≠ ([100, 105, 118] : Str))) && (decide (x_302 ≠ ([98] : Str)))) && (decide (x_302 ≠ (([([112] : Str), ([108, 105] : Str), ([100, 100] : Str), ([100, 105, 118] : Str), ([98] : Str), ([111, 112, 116, 105, 111, 110] : Str)] : List Str).getD r_173.toNat []))))))) rfl (fun hg => r_eql (cv_get (hA329.get rfl) hg) (cv_get (hA329.get rfl) hg)) fun a330 hA330 _ => ?_)
      refine sq (opk_gval hA330 rfl rfl (g := true) (e := ((decide (i_202 < r_190)) && (!(((decide (x_302 ≠ ([100, 105, 118] : Str))) && (decide (x_302 ≠ ([98] : Str)))) && (decide (x_302 ≠ (([([112] : Str), ([108, 105] : Str), ([100, 100] : Str), ([100, 105, 118] : Str), ([98] : Str), ([111, 112, 116, 105, 111, 110] : Str)] : List Str).getD r_173.toNat []))))))) rfl (fun hg => r_move (cv_get (hA330.get rfl) hg)) fun a331 hA331 _ => ?_)
      refine sq (opk_gval hA331 rfl rfl (g := (true && (((decide (i_202 < r_190)) && (!(((decide (x_302 ≠ ([100, 105, 118] : Str))) && (decide (x_302 ≠ ([98] : Str)))) && (decide (x_302 ≠ (([([112] : Str), ([108, 105] : Str), ([100, 100] : Str), ([100, 105, 118] : Str), ([98] : Str), ([111, 112, 116, 105, 111, 110] : Str)] : List Str).getD r_173.toNat [])))))) == false))) (e := (decide (i_202 = r_190))) rfl (fun hg => r_move (hA331.get rfl)) fun a332 hA332 _ => ?_)
      refine sq (opk_gval hA332 rfl rfl (g := true) (e := ((decide (i_202 < r_190)) && (!(((decide (x_302 ≠ ([100, 105, 118] : Str))) && (decide (x_302 ≠ ([98] : Str)))) && (decide (x_302 ≠ (([([112] : Str), ([108, 105] : Str), ([100, 100] : Str), ([100, 105, 118] : Str), ([98] : Str), ([111, 112, 116, 105, 111, 110] : Str)] : List Str).getD r_173.toNat []))))))) rfl (fun hg => r_pick_and (g := ((true && (((decide (i_202 < r_190)) && (!(((decide (x_302 ≠ ([100, 105, 118] : Str))) && (decide (x_302 ≠ ([98] : Str)))) && (decide (x_302 ≠ (([([112] : Str), ([108, 105] : Str), ([100, 100] : Str), ([100, 105, 118] : Str), ([98] : Str), ([111, 112, 116, 105, 111, 110] : Str)] : List Str).getD r_173.toNat [])))))) == false)) && ((decide (i_202 = r_190)) == true))) (cv_get (hA332.get rfl) hg) (hA332.get rfl) (fun he => g_mkt hg he)) fun a333 hA333 _ => ?_)
      refine sq (opk_val hA333 rfl (r_pick_or (g := (true && (((decide (i_202 < r_190)) && (!(((decide (x_302 ≠ ([100, 105, 118] : Str))) && (decide (x_302 ≠ ([98] : Str)))) && (decide (x_302 ≠ (([([112] : Str), ([108, 105] : Str), ([100, 100] : Str), ([100, 105, 118] : Str), ([98] : Str), ([111, 112, 116, 105, 111, 110] : Str)] : List Str).getD r_173.toNat [])))))) == false))) (hA333.get rfl) (hA333.get rfl) (fun he => g_mkf rfl he)) fun a334 hA334 _ => ?_)
      refine sq_end ?_
      have hA335 := hA334.keep [(6, Sl.v o_26), (8, .string (Bs (([([112] : Str), ([108, 105] : Str), ([100, 100] : Str), ([100, 105, 118] : Str), ([98] : Str), ([111, 112, 116, 105, 111, 110] : Str)] : List Str).getD r_173.toNat []))), (9, .int .i64 r_190), (10, .int .i64 i_202), (82, .bool (((decide (i_202 < r_190)) && (!(((decide (x_302 ≠ ([100, 105, 118] : Str))) && (decide (x_302 ≠ ([98] : Str)))) && (decide (x_302 ≠ (([([112] : Str), ([108, 105] : Str), ([100, 100] : Str), ([100, 105, 118] : Str), ([98] : Str), ([111, 112, 116, 105, 111, 110] : Str)] : List Str).getD r_173.toNat [])))))) || ((decide (i_202 = r_190)) && (((decide (x_302 ≠ ([100, 105, 118] : Str))) && (decide (x_302 ≠ ([98] : Str)))) && (decide (x_302 ≠ (([([112] : Str), ([108, 105] : Str), ([100, 100] : Str), ([100, 105, 118] : Str), ([98] : Str), ([111, 112, 116, 105, 111, 110] : Str)] : List Str).getD r_173.toNat [])))))))] ⟨rfl, rfl, rfl, rfl, rfl, trivial⟩
      refine then_normal ?_
      refine wp_cond_split (hA335.get rfl) (fun hc => ?_) (fun hc => ?_)
      · have ht336 := ht304.1 ((b_or_t hc).imp (fun h => ⟨(of_decide_eq_true (b_and_t h).1), ((b_and_f (b_not_t (b_and_t h).2)).imp (fun h => ((b_and_f h).imp (fun h => (of_decide_eq_false h)) (fun h => (of_decide_eq_false h)))) (fun h => (of_decide_eq_false h)))⟩) (fun h => ⟨(of_decide_eq_true (b_and_t h).1), ⟨⟨(of_decide_eq_true (b_and_t (b_and_t (b_and_t h).2).1).1), (of_decide_eq_true (b_and_t (b_and_t (b_and_t h).2).1).2)⟩, (of_decide_eq_true (b_and_t (b_and_t h).2).2)⟩⟩))
        clear hc
        refine wp_seq ?_
        refine wp_region_lit ?_
        refine sq (opk_val hA335 rfl (r_assign rfl) fun a338 hA338 _ => ?_)
        refine sq_end ?_
        have hA339 := hA338.keep [(4, .bool false)] ⟨rfl, trivial⟩
        refine then_normal ?_
        refine wp_ret ?_
        refine block_ret ?_
        refine then_ret ?_
        refine then_ret ?_
        refine block_ret ?_
        refine then_ret ?_
        exact res_all (vs := [.bool false]) rfl hA339 ⟨res_of_tmp hA339 rfl, trivial⟩ ht336
      · have ht337 := ht304.2 ⟨((b_and_f (b_or_f hc).1).imp (fun h => (of_decide_eq_false h)) (fun h => ⟨⟨(of_decide_eq_true (b_and_t (b_and_t (b_not_f h)).1).1), (of_decide_eq_true (b_and_t (b_and_t (b_not_f h)).1).2)⟩, (of_decide_eq_true (b_and_t (b_not_f h)).2)⟩)), ((b_and_f (b_or_f hc).2).imp (fun h => (of_decide_eq_false h)) (fun h => ((b_and_f h).imp (fun h => ((b_and_f h).imp (fun h => (of_decide_eq_false h)) (fun h => (of_decide_eq_false h)))) (fun h => (of_decide_eq_false h)))))⟩
        clear hc
        refine wp_skip ?_
        refine block_normal ?_
        refine then_normal ?_
        refine wp_region_lit ?_
        refine sq (opk_val hA335 rfl (r_move (hA335.get rfl)) fun a340 hA340 _ => ?_)
        obtain ⟨hS342, ht343⟩ := ht337
        refine sq (opk_val hA340 rfl (r_addI (hA340.get rfl) rfl hS342) fun a341 hA341 _ => ?_)
        refine sq (opk_val hA341 rfl (r_assign (hA341.get rfl)) fun a344 hA344 _ => ?_)
        refine sq_end ?_
        have hA345 := hA344.keep [(6, Sl.v o_26), (8, .string (Bs (([([112] : Str), ([108, 105] : Str), ([100, 100] : Str), ([100, 105, 118] : Str), ([98] : Str), ([111, 112, 116, 105, 111, 110] : Str)] : List Str).getD r_173.toNat []))), (9, .int .i64 r_190), (10, .int .i64 (i_202 + 1))] ⟨rfl, rfl, rfl, rfl, trivial⟩
        have hA346 := hA345.keep [(6, Sl.v o_26), (8, .string (Bs (([([112] : Str), ([108, 105] : Str), ([100, 100] : Str), ([100, 105, 118] : Str), ([98] : Str), ([111, 112, 116, 105, 111, 110] : Str)] : List Str).getD r_173.toNat []))), (9, .int .i64 r_190), (10, .int .i64 (i_202 + 1))] ⟨rfl, rfl, rfl, rfl, trivial⟩
        exact then_normal ⟨(i_202 + 1, w203), ⟨hA346, rfl, ht343.1⟩, ht343.2⟩
    · have ht285 := ht277.2 (of_decide_eq_false hc)
      clear hc
      refine wp_exit ?_
      refine then_exit ?_
      refine then_exit ?_
      refine block_hit ?_
      have hA347 := hA283.keep [(6, Sl.v o_26), (8, .string (Bs (([([112] : Str), ([108, 105] : Str), ([100, 100] : Str), ([100, 105, 118] : Str), ([98] : Str), ([111, 112, 116, 105, 111, 110] : Str)] : List Str).getD r_173.toNat []))), (9, .int .i64 r_190)] ⟨rfl, rfl, rfl, trivial⟩
      refine then_normal ?_
      refine wp_seq ?_
      refine wp_region_lit ?_
      refine sq (opk_val hA347 rfl (r_move (hA347.get rfl)) fun a348 hA348 _ => ?_)
      refine sq (opk_val hA348 rfl (r_move (hA348.get rfl)) fun a349 hA349 _ => ?_)
      refine sq (opk_new (fun B => .slice (some ⟨B, 0, none⟩) 1 1) hA349 rfl (r_buildSlice (vs := #[(0, .string (Bs (([([112] : Str), ([108, 105] : Str), ([100, 100] : Str), ([100, 105, 118] : Str), ([98] : Str), ([111, 112, 116, 105, 111, 110] : Str)] : List Str).getD r_173.toNat [])))]) (cs := [.string (Bs (([([112] : Str), ([108, 105] : Str), ([100, 100] : Str), ([100, 105, 118] : Str), ([98] : Str), ([111, 112, 116, 105, 111, 110] : Str)] : List Str).getD r_173.toNat []))]) (map_arr2 (ml2_cons (hA349.get rfl) (ml2_nil))) Tryd.underlying22 ti_9 rfl rfl (by kernel_rfl)) fun a352 w351 B_350 hE353 hN354 hB355 hA352 _ => ?_)
      have hN356 : New w203 B_350 w351 := hN354
      have hC357 : Chg [] w203 w351 := hE353
      have ht358 := ht285 w351 B_350 hN356  hC357
      have ht359 := ht358 hB355
      refine sq (opk_call hA352 rfl (r_call (args := #[Sl.v o_26, Sl.v (Sl.mk (some ⟨B_350, 0, none⟩) 1 1)]) Tryd.func18 (by decide) rfl (map_arr (ml_cons (hA352.get rfl) (ml_cons (hA352.get rfl) ml_nil))) rfl) ht359 fun a361 v367 w362 hA361 _ hn364 hz365 hK366 => ?_)
      obtain ⟨r_360, rfl, ht363⟩ := hK366
      refine sq (opk_val hA361 rfl (r_assign (hA361.get rfl)) fun a368 hA368 _ => ?_)
      refine sq_end ?_
      have hA369 := hA368.keep [(6, Sl.v o_26), (8, .string (Bs (([([112] : Str), ([108, 105] : Str), ([100, 100] : Str), ([100, 105, 118] : Str), ([98] : Str), ([111, 112, 116, 105, 111, 110] : Str)] : List Str).getD r_173.toNat []))), (9, .int .i64 r_190), (13, .int .i64 r_360)] ⟨rfl, rfl, rfl, rfl, trivial⟩
      refine then_normal ?_
      refine wp_seq ?_
      refine wp_seq ?_
      refine wp_region_lit ?_
      refine sq (opk_val hA369 rfl (r_assign rfl) fun a370 hA370 _ => ?_)
      refine sq_end ?_
      have hA371 := hA370.keep [(6, Sl.v o_26), (8, .string (Bs (([([112] : Str), ([108, 105] : Str), ([100, 100] : Str), ([100, 105, 118] : Str), ([98] : Str), ([111, 112, 116, 105, 111, 110] : Str)] : List Str).getD r_173.toNat []))), (9, .int .i64 r_190), (13, .int .i64 r_360), (14, .int .i64 1)] ⟨rfl, rfl, rfl, rfl, rfl, trivial⟩
      refine then_normal ?_
      refine wp_block ?_
      obtain ⟨J_374, mu_375, h0414, ht413⟩ := ht363
      refine wp_loop_st (σ := Int × World) (fun s a w => Ag 142 a [(6, Sl.v o_26), (8, .string (Bs (([([112] : Str), ([108, 105] : Str), ([100, 100] : Str), ([100, 105, 118] : Str), ([98] : Str), ([111, 112, 116, 105, 111, 110] : Str)] : List Str).getD r_173.toNat []))), (9, .int .i64 r_190), (13, .int .i64 r_360), (14, .int .i64 s.1)] ∧ w = s.2 ∧ J_374 s.1 s.2) (fun s => mu_375 s.1 s.2) (1, w362) ⟨hA371.keep [(6, Sl.v o_26), (8, .string (Bs (([([112] : Str), ([108, 105] : Str), ([100, 100] : Str), ([100, 105, 118] : Str), ([98] : Str), ([111, 112, 116, 105, 111, 110] : Str)] : List Str).getD r_173.toNat []))), (9, .int .i64 r_190), (13, .int .i64 r_360), (14, .int .i64 1)] ⟨rfl, rfl, rfl, rfl, rfl, trivial⟩, rfl, h0414⟩ ?_
      rintro ⟨i_372, w373⟩ a412 w_ ⟨hA412, hw_, hJ416⟩
      have hw_ : w373 = w_ := hw_.symm
      subst hw_
      have ht415 := ht413 i_372 _ hJ416
      refine wp_seq ?_
      refine wp_seq ?_
      refine wp_region_lit ?_
      refine sq (opk_val hA412 rfl (r_move (hA412.get rfl)) fun a417 hA417 _ => ?_)
      refine sq (opk_val hA417 rfl (r_move (hA417.get rfl)) fun a418 hA418 _ => ?_)
      refine sq (opk_val hA418 rfl (r_lss (hA418.get rfl) (hA418.get rfl)) fun a419 hA419 _ => ?_)
      refine sq_end ?_
      have hA420 := hA419.keep [(6, Sl.v o_26), (8, .string (Bs (([([112] : Str), ([108, 105] : Str), ([100, 100] : Str), ([100, 105, 118] : Str), ([98] : Str), ([111, 112, 116, 105, 111, 110] : Str)] : List Str).getD r_173.toNat []))), (9, .int .i64 r_190), (13, .int .i64 r_360), (14, .int .i64 i_372), (89, .bool (decide (i_372 < r_360)))] ⟨rfl, rfl, rfl, rfl, rfl, rfl, trivial⟩
      refine then_normal ?_
      refine wp_cond_split (hA420.get rfl) (fun hc => ?_) (fun hc => ?_)
      · have ht421 := ht415.1 (of_decide_eq_true hc)
        clear hc
        refine wp_skip ?_
        refine then_normal ?_
        refine wp_seq ?_
        refine wp_block ?_
        refine wp_seq ?_
        refine wp_region_lit ?_
        refine sq (opk_val hA420 rfl (r_move (hA420.get rfl)) fun a423 hA423 _ => ?_)
        refine sq (opk_val hA423 rfl (r_move (hA423.get rfl)) fun a424 hA424 _ => ?_)
        refine sq (opk_val hA424 rfl (r_len (hA424.get rfl) Tryd.underlying22) fun a425 hA425 _ => ?_)
        refine sq (opk_val hA425 rfl (r_move (hA425.get rfl)) fun a426 hA426 _ => ?_)
        obtain ⟨hS428, ht429⟩ := ht421
        refine sq (opk_val hA426 rfl (r_subI (hA426.get rfl) (hA426.get rfl) hS428) fun a427 hA427 _ => ?_)
        obtain ⟨hb431, p_430, hp432, ht433⟩ := ht429
        refine sq (opk_val hA427 rfl (r_indexAddr (hA427.get rfl) (hA427.get rfl) Tryd.underlying22 ti_9 hb431 hp432) fun a434 hA434 _ => ?_)
        obtain ⟨x_436, hx437, ht438⟩ := ht433
        refine sq (opk_val hA434 rfl (r_load1 Tryd.underlying9 rfl (hA434.get rfl) hx437) fun a435 hA435 _ => ?_)
        refine sq (opk_val hA435 rfl (r_move (hA435.get rfl)) fun a439 hA439 _ => ?_)
        refine sq (opk_val hA439 rfl (r_seql (hA439.get rfl) (hA439.get rfl)) fun a440 hA440 _ => ?_)
        refine sq_end ?_
        have hA441 := hA440.keep [(6, Sl.v o_26), (8, .string (Bs (([([112] : Str), ([108, 105] : Str), ([100, 100] : Str), ([100, 105, 118] : Str), ([98] : Str), ([111, 112, 116, 105, 111, 110] : Str)] : List Str).getD r_173.toNat []))), (9, .int .i64 r_190), (13, .int .i64 r_360), (14, .int .i64 i_372), (100, .bool (decide (x_436 = (([([112] : Str), ([108, 105] : Str), ([100, 100] : Str), ([100, 105, 118] : Str), ([98] : Str), ([111, 112, 116, 105, 111, 110] : Str)] : List Str).getD r_173.toNat []))))] ⟨rfl, rfl, rfl, rfl, rfl, rfl, trivial⟩
        refine then_normal ?_
        refine wp_cond_split (hA441.get rfl) (fun hc => ?_) (fun hc => ?_)
        · have ht442 := ht438.1 (of_decide_eq_true hc)
          clear hc
          refine wp_seq ?_
          refine wp_region_lit ?_
          refine sq (opk_val hA441 rfl (r_assign rfl) fun a444 hA444 _ => ?_)
          refine sq_end ?_
          have hA445 := hA444.keep [(4, .bool false)] ⟨rfl, trivial⟩
          refine then_normal ?_
          refine wp_ret ?_
          refine block_ret ?_
          refine then_ret ?_
          refine then_ret ?_
          refine block_ret ?_
          refine then_ret ?_
          exact res_all (vs := [.bool false]) rfl hA445 ⟨res_of_tmp hA445 rfl, trivial⟩ ht442
        · have ht443 := ht438.2 (of_decide_eq_false hc)
          clear hc
          refine wp_skip ?_
          refine block_normal ?_
          refine then_normal ?_
          refine wp_region_lit ?_
          refine sq (opk_val hA441 rfl (r_move (hA441.get rfl)) fun a446 hA446 _ => ?_)
          obtain ⟨hS448, ht449⟩ := ht443
          refine sq (opk_val hA446 rfl (r_addI (hA446.get rfl) rfl hS448) fun a447 hA447 _ => ?_)
          refine sq (opk_val hA447 rfl (r_assign (hA447.get rfl)) fun a450 hA450 _ => ?_)
          refine sq_end ?_
          have hA451 := hA450.keep [(6, Sl.v o_26), (8, .string (Bs (([([112] : Str), ([108, 105] : Str), ([100, 100] : Str), ([100, 105, 118] : Str), ([98] : Str), ([111, 112, 116, 105, 111, 110] : Str)] : List Str).getD r_173.toNat []))), (9, .int .i64 r_190), (13, .int .i64 r_360), (14, .int .i64 (i_372 + 1))] ⟨rfl, rfl, rfl, rfl, rfl, trivial⟩
          have hA452 := hA451.keep [(6, Sl.v o_26), (8, .string (Bs (([([112] : Str), ([108, 105] : Str), ([100, 100] : Str), ([100, 105, 118] : Str), ([98] : Str), ([111, 112, 116, 105, 111, 110] : Str)] : List Str).getD r_173.toNat []))), (9, .int .i64 r_190), (13, .int .i64 r_360), (14, .int .i64 (i_372 + 1))] ⟨rfl, rfl, rfl, rfl, rfl, trivial⟩
          exact then_normal ⟨(i_372 + 1, w373), ⟨hA452, rfl, ht449.1⟩, ht449.2⟩
      · have ht422 := ht415.2 (of_decide_eq_false hc)
        clear hc
        refine wp_exit ?_
        refine then_exit ?_
        refine then_exit ?_
        refine block_hit ?_
        have hA453 := hA420.keep [(6, Sl.v o_26), (8, .string (Bs (([([112] : Str), ([108, 105] : Str), ([100, 100] : Str), ([100, 105, 118] : Str), ([98] : Str), ([111, 112, 116, 105, 111, 110] : Str)] : List Str).getD r_173.toNat []))), (9, .int .i64 r_190), (13, .int .i64 r_360)] ⟨rfl, rfl, rfl, rfl, trivial⟩
        refine then_normal ?_
        refine wp_seq ?_
        refine wp_region_lit ?_
        refine sq (opk_val hA453 rfl (r_move (hA453.get rfl)) fun a454 hA454 _ => ?_)
        refine sq (opk_val hA454 rfl (r_move (hA454.get rfl)) fun a455 hA455 _ => ?_)
        refine sq (opk_val hA455 rfl (r_len (hA455.get rfl) Tryd.underlying22) fun a456 hA456 _ => ?_)
        refine sq (opk_val hA456 rfl (r_leq (hA456.get rfl) (hA456.get rfl)) fun a457 hA457 _ => ?_)
        refine sq (opk_val hA457 rfl (r_move (hA457.get rfl)) fun a458 hA458 _ => ?_)
        refine sq (opk_gval hA458 rfl rfl (g := true) (e := (decide (r_190 ≤ (o_26.n : Int)))) rfl (fun hg => r_move (hA458.get rfl)) fun a459 hA459 _ => ?_)
        refine sq (opk_gval hA459 rfl rfl (g := true) (e := (decide (r_190 ≤ (o_26.n : Int)))) rfl (fun hg => r_move (hA459.get rfl)) fun a460 hA460 _ => ?_)
        refine sq (opk_gval hA460 rfl rfl (g := true) (e := (decide (r_190 ≤ (o_26.n : Int)))) rfl (fun hg => r_len (cv_get (hA460.get rfl) hg) Tryd.underlying22) fun a461 hA461 _ => ?_)
        refine sq (opk_gval hA461 rfl rfl (g := true) (e := (decide (r_190 ≤ (o_26.n : Int)))) rfl (fun hg => r_leq (cv_get (hA461.get rfl) hg) (cv_get (hA461.get rfl) hg)) fun a462 hA462 _ => ?_)
        refine sq (opk_val hA462 rfl (r_pick_and (g := (true && ((decide (r_190 ≤ (o_26.n : Int))) == true))) (hA462.get rfl) (hA462.get rfl) (fun he => g_mkt rfl he)) fun a463 hA463 _ => ?_)
        refine sq (opk_val hA463 rfl (r_move (hA463.get rfl)) fun a464 hA464 _ => ?_)
        refine sq (opk_gval hA464 rfl rfl (g := true) (e := ((decide (r_190 ≤ (o_26.n : Int))) && (decide (r_360 ≤ (o_26.n : Int))))) rfl (fun hg => r_move (hA464.get rfl)) fun a465 hA465 _ => ?_)
        refine sq (opk_gval hA465 rfl rfl (g := true) (e := ((decide (r_190 ≤ (o_26.n : Int))) && (decide (r_360 ≤ (o_26.n : Int))))) rfl (fun hg => r_eql (cv_get (hA465.get rfl) hg) rfl) fun a466 hA466 _ => ?_)
        refine sq (opk_gval hA466 rfl rfl (g := true) (e := ((decide (r_190 ≤ (o_26.n : Int))) && (decide (r_360 ≤ (o_26.n : Int))))) rfl (fun hg => r_move (cv_get (hA466.get rfl) hg)) fun a467 hA467 _ => ?_)
        refine sq (opk_gval hA467 rfl rfl (g := (true && (((decide (r_190 ≤ (o_26.n : Int))) && (decide (r_360 ≤ (o_26.n : Int)))) == true))) (e := (decide (r_360 = 0))) rfl (fun hg => r_move (hA467.get rfl)) fun a468 hA468 _ => ?_)
        refine sq (opk_gval hA468 rfl rfl (g := (true && (((decide (r_190 ≤ (o_26.n : Int))) && (decide (r_360 ≤ (o_26.n : Int)))) == true))) (e := (decide (r_360 = 0))) rfl (fun hg => r_move (hA468.get rfl)) fun a469 hA469 _ => ?_)
        refine sq (opk_gval hA469 rfl rfl (g := (true && (((decide (r_190 ≤ (o_26.n : Int))) && (decide (r_360 ≤ (o_26.n : Int)))) == true))) (e := (decide (r_360 = 0))) rfl (fun hg => r_len (cv_get (hA469.get rfl) hg) Tryd.underlying22) fun a470 hA470 _ => ?_)
        refine sq (opk_gval hA470 rfl rfl (g := (true && (((decide (r_190 ≤ (o_26.n : Int))) && (decide (r_360 ≤ (o_26.n : Int)))) == true))) (e := (decide (r_360 = 0))) rfl (fun hg => r_move (hA470.get rfl)) fun a471 hA471 _ => ?_)
        obtain ⟨hS473, ht474⟩ := ht422
        refine sq (opk_gval hA471 rfl rfl (g := (true && (((decide (r_190 ≤ (o_26.n : Int))) && (decide (r_360 ≤ (o_26.n : Int)))) == true))) (e := (decide (r_360 = 0))) rfl (fun hg => r_subI (cv_get (hA471.get rfl) hg) (cv_get (hA471.get rfl) hg) (hS473 ⟨⟨(of_decide_eq_true (b_and_t (g_t (g_up hg))).1), (of_decide_eq_true (b_and_t (g_t (g_up hg))).2)⟩, (of_decide_eq_false (g_f hg))⟩)) fun a472 hA472 _ => ?_)
        obtain ⟨p_475, hp477, ht478⟩ := ht474
        refine sq (opk_gval hA472 rfl rfl (g := (true && (((decide (r_190 ≤ (o_26.n : Int))) && (decide (r_360 ≤ (o_26.n : Int)))) == true))) (e := (decide (r_360 = 0))) rfl (fun hg => r_indexAddr (cv_get (hA472.get rfl) hg) (cv_get (hA472.get rfl) hg) Tryd.underlying22 ti_9 (hp477 ⟨⟨(of_decide_eq_true (b_and_t (g_t (g_up hg))).1), (of_decide_eq_true (b_and_t (g_t (g_up hg))).2)⟩, (of_decide_eq_false (g_f hg))⟩).1 (hp477 ⟨⟨(of_decide_eq_true (b_and_t (g_t (g_up hg))).1), (of_decide_eq_true (b_and_t (g_t (g_up hg))).2)⟩, (of_decide_eq_false (g_f hg))⟩).2) fun a479 hA479 _ => ?_)
        obtain ⟨x_481, hx482, ht483⟩ := ht478
        refine sq (opk_gval hA479 rfl rfl (g := (true && (((decide (r_190 ≤ (o_26.n : Int))) && (decide (r_360 ≤ (o_26.n : Int)))) == true))) (e := (decide (r_360 = 0))) rfl (fun hg => r_load1 Tryd.underlying9 rfl (cv_get (hA479.get rfl) hg) (hx482 ⟨⟨(of_decide_eq_true (b_and_t (g_t (g_up hg))).1), (of_decide_eq_true (b_and_t (g_t (g_up hg))).2)⟩, (of_decide_eq_false (g_f hg))⟩)) fun a480 hA480 _ => ?_)
        refine sq (opk_gval hA480 rfl rfl (g := (true && (((decide (r_190 ≤ (o_26.n : Int))) && (decide (r_360 ≤ (o_26.n : Int)))) == true))) (e := (decide (r_360 = 0))) rfl (fun hg => r_move (hA480.get rfl)) fun a484 hA484 _ => ?_)
        refine sq (opk_gval hA484 rfl rfl (g := (true && (((decide (r_190 ≤ (o_26.n : Int))) && (decide (r_360 ≤ (o_26.n : Int)))) == true))) (e := (decide (r_360 = 0))) rfl (fun hg => r_seql (cv_get (hA484.get rfl) hg) (cv_get (hA484.get rfl) hg)) fun a485 hA485 _ => ?_)
        refine sq (opk_gval hA485 rfl rfl (g := true) (e := ((decide (r_190 ≤ (o_26.n : Int))) && (decide (r_360 ≤ (o_26.n : Int))))) rfl (fun hg => r_pick_or (g := ((true && (((decide (r_190 ≤ (o_26.n : Int))) && (decide (r_360 ≤ (o_26.n : Int)))) == true)) && ((decide (r_360 = 0)) == false))) (cv_get (hA485.get rfl) hg) (hA485.get rfl) (fun he => g_mkf hg he)) fun a486 hA486 _ => ?_)
        refine sq (opk_val hA486 rfl (r_pick_and (g := (true && (((decide (r_190 ≤ (o_26.n : Int))) && (decide (r_360 ≤ (o_26.n : Int)))) == true))) (hA486.get rfl) (hA486.get rfl) (fun he => g_mkt rfl he)) fun a487 hA487 _ => ?_)
        refine sq (opk_val hA487 rfl (r_move (hA487.get rfl)) fun a488 hA488 _ => ?_)
        refine sq (opk_gval hA488 rfl rfl (g := true) (e := (((decide (r_190 ≤ (o_26.n : Int))) && (decide (r_360 ≤ (o_26.n : Int)))) && ((decide (r_360 = 0)) || (decide (x_481 = (([([112] : Str), ([108, 105] : Str), ([100, 100] : Str), ([100, 105, 118] : Str), ([98] : Str), ([111, 112, 116, 105, 111, 110] : Str)] : List Str).getD r_173.toNat [])))))) rfl (fun hg => r_move (hA488.get rfl)) fun a489 hA489 _ => ?_)
        obtain ⟨r_490, hc494, ht493⟩ := ht483
        refine sq (opk_gcall hA489 rfl rfl (g := true) (e := (((decide (r_190 ≤ (o_26.n : Int))) && (decide (r_360 ≤ (o_26.n : Int)))) && ((decide (r_360 = 0)) || (decide (x_481 = (([([112] : Str), ([108, 105] : Str), ([100, 100] : Str), ([100, 105, 118] : Str), ([98] : Str), ([111, 112, 116, 105, 111, 110] : Str)] : List Str).getD r_173.toNat [])))))) rfl (fun hg => r_call (args := #[Sl.v o_26, Sl.v Sl.nil]) Tryd.func18 (by decide) rfl (map_arr (ml_cons (cv_get (hA489.get rfl) hg) (ml_cons rfl ml_nil))) rfl) (fun hg => hc494 ⟨⟨(of_decide_eq_true (b_and_t (b_and_t (g_t hg)).1).1), (of_decide_eq_true (b_and_t (b_and_t (g_t hg)).1).2)⟩, ((b_or_t (b_and_t (g_t hg)).2).imp (fun h => (of_decide_eq_true h)) (fun h => (of_decide_eq_true h)))⟩) fun a491 w492 hA491 _ hE495 => ?_)
        have hC496 : Chg [] w373 w492 := hE495
        have ht497 := ht493 w492 hE495
        refine sq (opk_gval hA491 rfl rfl (g := true) (e := (((decide (r_190 ≤ (o_26.n : Int))) && (decide (r_360 ≤ (o_26.n : Int)))) && ((decide (r_360 = 0)) || (decide (x_481 = (([([112] : Str), ([108, 105] : Str), ([100, 100] : Str), ([100, 105, 118] : Str), ([98] : Str), ([111, 112, 116, 105, 111, 110] : Str)] : List Str).getD r_173.toNat [])))))) rfl (fun hg => r_eql (cv_get (hA491.get rfl) hg) rfl) fun a498 hA498 _ => ?_)
        refine sq (opk_val hA498 rfl (r_pick_and (g := (true && ((((decide (r_190 ≤ (o_26.n : Int))) && (decide (r_360 ≤ (o_26.n : Int)))) && ((decide (r_360 = 0)) || (decide (x_481 = (([([112] : Str), ([108, 105] : Str), ([100, 100] : Str), ([100, 105, 118] : Str), ([98] : Str), ([111, 112, 116, 105, 111, 110] : Str)] : List Str).getD r_173.toNat []))))) == true))) (hA498.get rfl) (hA498.get rfl) (fun he => g_mkt rfl he)) fun a499 hA499 _ => ?_)
        refine sq (opk_val hA499 rfl (r_move (hA499.get rfl)) fun a500 hA500 _ => ?_)
        refine sq (opk_gval hA500 rfl rfl (g := true) (e := ((((decide (r_190 ≤ (o_26.n : Int))) && (decide (r_360 ≤ (o_26.n : Int)))) && ((decide (r_360 = 0)) || (decide (x_481 = (([([112] : Str), ([108, 105] : Str), ([100, 100] : Str), ([100, 105, 118] : Str), ([98] : Str), ([111, 112, 116, 105, 111, 110] : Str)] : List Str).getD r_173.toNat []))))) && (decide (r_490 = 0)))) rfl (fun hg => r_move (hA500.get rfl)) fun a501 hA501 _ => ?_)
        refine sq (opk_gval hA501 rfl rfl (g := true) (e := ((((decide (r_190 ≤ (o_26.n : Int))) && (decide (r_360 ≤ (o_26.n : Int)))) && ((decide (r_360 = 0)) || (decide (x_481 = (([([112] : Str), ([108, 105] : Str), ([100, 100] : Str), ([100, 105, 118] : Str), ([98] : Str), ([111, 112, 116, 105, 111, 110] : Str)] : List Str).getD r_173.toNat []))))) && (decide (r_490 = 0)))) rfl (fun hg => r_gtr (cv_get (hA501.get rfl) hg) rfl) fun a502 hA502 _ => ?_)
        refine sq (opk_gval hA502 rfl rfl (g := true) (e := ((((decide (r_190 ≤ (o_26.n : Int))) && (decide (r_360 ≤ (o_26.n : Int)))) && ((decide (r_360 = 0)) || (decide (x_481 = (([([112] : Str), ([108, 105] : Str), ([100, 100] : Str), ([100, 105, 118] : Str), ([98] : Str), ([111, 112, 116, 105, 111, 110] : Str)] : List Str).getD r_173.toNat []))))) && (decide (r_490 = 0)))) rfl (fun hg => r_move (hA502.get rfl)) fun a503 hA503 _ => ?_)
        refine sq (opk_gval hA503 rfl rfl (g := true) (e := ((((decide (r_190 ≤ (o_26.n : Int))) && (decide (r_360 ≤ (o_26.n : Int)))) && ((decide (r_360 = 0)) || (decide (x_481 = (([([112] : Str), ([108, 105] : Str), ([100, 100] : Str), ([100, 105, 118] : Str), ([98] : Str), ([111, 112, 116, 105, 111, 110] : Str)] : List Str).getD r_173.toNat []))))) && (decide (r_490 = 0)))) rfl (fun hg => r_move (hA503.get rfl)) fun a504 hA504 _ => ?_)
        obtain ⟨r_505, hc509, ht508⟩ := ht497
        refine sq (opk_gcall hA504 rfl rfl (g := true) (e := ((((decide (r_190 ≤ (o_26.n : Int))) && (decide (r_360 ≤ (o_26.n : Int)))) && ((decide (r_360 = 0)) || (decide (x_481 = (([([112] : Str), ([108, 105] : Str), ([100, 100] : Str), ([100, 105, 118] : Str), ([98] : Str), ([111, 112, 116, 105, 111, 110] : Str)] : List Str).getD r_173.toNat []))))) && (decide (r_490 = 0)))) rfl (fun hg => r_call (args := #[Sl.v o_26, .string (Bs (([([112] : Str), ([108, 105] : Str), ([100, 100] : Str), ([100, 105, 118] : Str), ([98] : Str), ([111, 112, 116, 105, 111, 110] : Str)] : List Str).getD r_173.toNat [])), .int .i64 4]) Tryd.func14 (by decide) rfl (map_arr (ml_cons (cv_get (hA504.get rfl) hg) (ml_cons (cv_get (hA504.get rfl) hg) (ml_cons rfl ml_nil)))) rfl) (fun hg => hc509 ⟨⟨⟨(of_decide_eq_true (b_and_t (b_and_t (b_and_t (g_t hg)).1).1).1), (of_decide_eq_true (b_and_t (b_and_t (b_and_t (g_t hg)).1).1).2)⟩, ((b_or_t (b_and_t (b_and_t (g_t hg)).1).2).imp (fun h => (of_decide_eq_true h)) (fun h => (of_decide_eq_true h)))⟩, (of_decide_eq_true (b_and_t (g_t hg)).2)⟩) fun a506 w507 hA506 _ hE510 => ?_)
        have hC511 : Chg [] w492 w507 := hE510
        have ht512 := ht508 w507 hE510
        refine sq (opk_gval hA506 rfl rfl (g := true) (e := ((((decide (r_190 ≤ (o_26.n : Int))) && (decide (r_360 ≤ (o_26.n : Int)))) && ((decide (r_360 = 0)) || (decide (x_481 = (([([112] : Str), ([108, 105] : Str), ([100, 100] : Str), ([100, 105, 118] : Str), ([98] : Str), ([111, 112, 116, 105, 111, 110] : Str)] : List Str).getD r_173.toNat []))))) && (decide (r_490 = 0)))) rfl (fun hg => r_beql (cv_get (hA506.get rfl) hg) (cv_get (hA506.get rfl) hg) Tryd.underlying4) fun a513 hA513 _ => ?_)
        refine sq (opk_val hA513 rfl (r_pick_and (g := (true && (((((decide (r_190 ≤ (o_26.n : Int))) && (decide (r_360 ≤ (o_26.n : Int)))) && ((decide (r_360 = 0)) || (decide (x_481 = (([([112] : Str), ([108, 105] : Str), ([100, 100] : Str), ([100, 105, 118] : Str), ([98] : Str), ([111, 112, 116, 105, 111, 110] : Str)] : List Str).getD r_173.toNat []))))) && (decide (r_490 = 0))) == true))) (hA513.get rfl) (hA513.get rfl) (fun he => g_mkt rfl he)) fun a514 hA514 _ => ?_)
        refine sq (opk_val hA514 rfl (r_move (hA514.get rfl)) fun a515 hA515 _ => ?_)
        obtain ⟨r_516, hc520, ht519⟩ := ht512
        refine sq (opk_gcall hA515 rfl rfl (g := true) (e := (((((decide (r_190 ≤ (o_26.n : Int))) && (decide (r_360 ≤ (o_26.n : Int)))) && ((decide (r_360 = 0)) || (decide (x_481 = (([([112] : Str), ([108, 105] : Str), ([100, 100] : Str), ([100, 105, 118] : Str), ([98] : Str), ([111, 112, 116, 105, 111, 110] : Str)] : List Str).getD r_173.toNat []))))) && (decide (r_490 = 0))) && ((decide (0 < r_360)) == r_505))) rfl (fun hg => r_call (args := #[]) Tryd.func11 (by decide) rfl (map_arr ml_nil) rfl) (fun hg => hc520 ⟨⟨⟨⟨(of_decide_eq_true (b_and_t (b_and_t (b_and_t (b_and_t (g_t hg)).1).1).1).1), (of_decide_eq_true (b_and_t (b_and_t (b_and_t (b_and_t (g_t hg)).1).1).1).2)⟩, ((b_or_t (b_and_t (b_and_t (b_and_t (g_t hg)).1).1).2).imp (fun h => (of_decide_eq_true h)) (fun h => (of_decide_eq_true h)))⟩, (of_decide_eq_true (b_and_t (b_and_t (g_t hg)).1).2)⟩, (b_and_t (g_t hg)).2⟩) fun a517 w518 hA517 _ hE521 => ?_)
        have hC522 : Chg [] w507 w518 := hE521
        have ht523 := ht519 w518 hE521
        refine sq (opk_val hA517 rfl (r_pick_and (g := (true && ((((((decide (r_190 ≤ (o_26.n : Int))) && (decide (r_360 ≤ (o_26.n : Int)))) && ((decide (r_360 = 0)) || (decide (x_481 = (([([112] : Str), ([108, 105] : Str), ([100, 100] : Str), ([100, 105, 118] : Str), ([98] : Str), ([111, 112, 116, 105, 111, 110] : Str)] : List Str).getD r_173.toNat []))))) && (decide (r_490 = 0))) && ((decide (0 < r_360)) == r_505)) == true))) (hA517.get rfl) (hA517.get rfl) (fun he => g_mkt rfl he)) fun a524 hA524 _ => ?_)
        refine sq (opk_val hA524 rfl (r_assign (hA524.get rfl)) fun a525 hA525 _ => ?_)
        refine sq_end ?_
        have hA526 := hA525.keep [(4, .bool ((((((decide (r_190 ≤ (o_26.n : Int))) && (decide (r_360 ≤ (o_26.n : Int)))) && ((decide (r_360 = 0)) || (decide (x_481 = (([([112] : Str), ([108, 105] : Str), ([100, 100] : Str), ([100, 105, 118] : Str), ([98] : Str), ([111, 112, 116, 105, 111, 110] : Str)] : List Str).getD r_173.toNat []))))) && (decide (r_490 = 0))) && ((decide (0 < r_360)) == r_505)) && r_516))] ⟨rfl, trivial⟩
        refine then_normal ?_
        refine wp_ret ?_
        exact res_all (vs := [.bool ((((((decide (r_190 ≤ (o_26.n : Int))) && (decide (r_360 ≤ (o_26.n : Int)))) && ((decide (r_360 = 0)) || (decide (x_481 = (([([112] : Str), ([108, 105] : Str), ([100, 100] : Str), ([100, 105, 118] : Str), ([98] : Str), ([111, 112, 116, 105, 111, 110] : Str)] : List Str).getD r_173.toNat []))))) && (decide (r_490 = 0))) && ((decide (0 < r_360)) == r_505)) && r_516)]) rfl hA526 ⟨res_of_tmp hA526 rfl, trivial⟩ ht523

end Go.Proofs.YtnmpenfpajfoaaaDoor
