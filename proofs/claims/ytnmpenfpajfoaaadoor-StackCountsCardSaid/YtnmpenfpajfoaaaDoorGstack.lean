/-
  PRINTED BY PROGRAM: for each function its condition (vc), and that this suffices (ok).
-/
import Derived.Test.YtnmpenfpajfoaaaDoorGT
namespace Go.Proofs.YtnmpenfpajfoaaaDoor
open Go.RowKit
set_option linter.unusedVariables false

/-- The condition of topiary/stack.Is. -/
def stack_Is.vc (name_1 : Str) (sort_2 : Int) (R : Value → World → Prop) (w : World) : Prop :=
CallK Tryd.prog 21 #[.int .i64 sort_2] w [] (fun v w8 => ∃ (r_6 : Str), v = .string (Bs r_6) ∧
CallK Tryd.prog 20 #[.string (Bs r_6), .string (Bs name_1)] w8 [] (fun v w17 => ∃ (r_15 : Bool), v = .bool r_15 ∧
R (.bool r_15) w17))
set_option maxHeartbeats 1000000 in
set_option maxRecDepth 10000 in
theorem stack_Is.ok (name_1 : Str) (sort_2 : Int) {R : Value → World → Prop} {w : World} (ht0 : stack_Is.vc name_1 sort_2 R w) : Calls Tryd.prog 9 #[.string (Bs name_1), .int .i64 sort_2] w (Ret R) := by
  refine enter [.string (Bs name_1), .int .i64 sort_2] Tryd.func9 rfl Tryd.ntmps9 rfl ?_
  intro a0 hA0
  unfold stack_Is.vc at ht0
  refine wp_seq ?_
  refine wp_region_lit ?_
  refine sq (opk_val hA0 rfl (r_assign rfl) fun a3 hA3 _ => ?_)
  refine sq_end ?_
  have hA4 := hA3.keep [(0, .string (Bs name_1)), (1, .int .i64 sort_2)] ⟨rfl, rfl, trivial⟩
  refine then_normal ?_
  refine wp_seq ?_
  refine wp_region_lit ?_
  refine sq (opk_val hA4 rfl (r_move (hA4.get rfl)) fun a5 hA5 _ => ?_)
  refine sq (opk_call hA5 rfl (r_call (args := #[.int .i64 sort_2]) Tryd.func21 (by decide) rfl (map_arr (ml_cons (hA5.get rfl) ml_nil)) rfl) ht0 fun a7 v13 w8 hA7 _ hn10 hz11 hK12 => ?_)
  obtain ⟨r_6, rfl, ht9⟩ := hK12
  refine sq (opk_val hA7 rfl (r_move (hA7.get rfl)) fun a14 hA14 _ => ?_)
  refine sq (opk_call hA14 rfl (r_call (args := #[.string (Bs r_6), .string (Bs name_1)]) Tryd.func20 (by decide) rfl (map_arr (ml_cons (hA14.get rfl) (ml_cons (hA14.get rfl) ml_nil))) rfl) ht9 fun a16 v22 w17 hA16 _ hn19 hz20 hK21 => ?_)
  obtain ⟨r_15, rfl, ht18⟩ := hK21
  refine sq (opk_val hA16 rfl (r_assign (hA16.get rfl)) fun a23 hA23 _ => ?_)
  refine sq_end ?_
  have hA24 := hA23.keep [(4, .bool r_15)] ⟨rfl, trivial⟩
  refine then_normal ?_
  refine wp_ret ?_
  exact res_all (vs := [.bool r_15]) rfl hA24 ⟨res_of_tmp hA24 rfl, trivial⟩ ht18

/-- The condition of topiary/stack.In. -/
def stack_In.vc (open_1 : Sl) (name_2 : Str) (scope_3 : Int) (R : Value → World → Prop) (w : World) : Prop :=
(I64 ((open_1.n : Int) - 1)) ∧
∃ (J_15 : Int → World → Prop) (mu_16 : Int → World → Nat),
J_15 ((open_1.n : Int) - 1) w ∧
(∀ (i_13 : Int) (w14 : World), J_15 i_13 w14 →
((0 ≤ i_13) →
((0 : Int) ≤ i_13 ∧ i_13 < (open_1.n : Int)) ∧ ∃ p_82 : Addr, open_1.a = some p_82 ∧
∃ (x_88 : Str), (w14.cell? (p_82.add (i_13.toNat * 1)) = some (.string (Bs x_88))) ∧
((x_88 = name_2) →
R (.bool true) w14) ∧
((¬ (x_88 = name_2)) →
((0 : Int) ≤ i_13 ∧ i_13 < (open_1.n : Int)) ∧ ∃ p_100 : Addr, open_1.a = some p_100 ∧
∃ (x_106 : Str), (w14.cell? (p_100.add (i_13.toNat * 1)) = some (.string (Bs x_106))) ∧
CallK Tryd.prog 23 #[.string (Bs x_106), .int .i64 scope_3] w14 [] (fun v w112 => ∃ (r_110 : Bool), v = .bool r_110 ∧
((r_110 = true) →
R (.bool false) w112) ∧
((r_110 = false) →
(I64 (i_13 - 1)) ∧
J_15 (i_13 - 1) w112 ∧ mu_16 (i_13 - 1) w112 < mu_16 i_13 w14)))) ∧
((¬ (0 ≤ i_13)) →
R (.bool false) w14))
set_option maxHeartbeats 1000000 in
set_option maxRecDepth 10000 in
theorem stack_In.ok (open_1 : Sl) (name_2 : Str) (scope_3 : Int) {R : Value → World → Prop} {w : World} (ht0 : stack_In.vc open_1 name_2 scope_3 R w) : Calls Tryd.prog 14 #[Sl.v open_1, .string (Bs name_2), .int .i64 scope_3] w (Ret R) := by
  refine enter [Sl.v open_1, .string (Bs name_2), .int .i64 scope_3] Tryd.func14 rfl Tryd.ntmps14 rfl ?_
  intro a0 hA0
  unfold stack_In.vc at ht0
  refine wp_seq ?_
  refine wp_region_lit ?_
  refine sq (opk_val hA0 rfl (r_assign rfl) fun a4 hA4 _ => ?_)
  refine sq_end ?_
  have hA5 := hA4.keep [(0, Sl.v open_1), (1, .string (Bs name_2)), (2, .int .i64 scope_3)] ⟨rfl, rfl, rfl, trivial⟩
  refine then_normal ?_
  refine wp_seq ?_
  refine wp_seq ?_
  refine wp_region_lit ?_
  refine sq (opk_val hA5 rfl (r_move (hA5.get rfl)) fun a6 hA6 _ => ?_)
  refine sq (opk_val hA6 rfl (r_len (hA6.get rfl) Tryd.underlying22) fun a7 hA7 _ => ?_)
  obtain ⟨hS9, ht10⟩ := ht0
  refine sq (opk_val hA7 rfl (r_subI (hA7.get rfl) rfl hS9) fun a8 hA8 _ => ?_)
  refine sq (opk_val hA8 rfl (r_assign (hA8.get rfl)) fun a11 hA11 _ => ?_)
  refine sq_end ?_
  have hA12 := hA11.keep [(0, Sl.v open_1), (1, .string (Bs name_2)), (2, .int .i64 scope_3), (7, .int .i64 ((open_1.n : Int) - 1))] ⟨rfl, rfl, rfl, rfl, trivial⟩
  refine then_normal ?_
  refine wp_block ?_
  obtain ⟨J_15, mu_16, h072, ht71⟩ := ht10
  refine wp_loop_st (σ := Int × World) (fun s a w => Ag 27 a [(0, Sl.v open_1), (1, .string (Bs name_2)), (2, .int .i64 scope_3), (7, .int .i64 s.1)] ∧ w = s.2 ∧ J_15 s.1 s.2) (fun s => mu_16 s.1 s.2) ((open_1.n : Int) - 1, w) ⟨hA12.keep [(0, Sl.v open_1), (1, .string (Bs name_2)), (2, .int .i64 scope_3), (7, .int .i64 ((open_1.n : Int) - 1))] ⟨rfl, rfl, rfl, rfl, trivial⟩, rfl, h072⟩ ?_
  rintro ⟨i_13, w14⟩ a70 w_ ⟨hA70, hw_, hJ74⟩
  have hw_ : w14 = w_ := hw_.symm
  subst hw_
  have ht73 := ht71 i_13 _ hJ74
  refine wp_seq ?_
  refine wp_seq ?_
  refine wp_region_lit ?_
  refine sq (opk_val hA70 rfl (r_move (hA70.get rfl)) fun a75 hA75 _ => ?_)
  refine sq (opk_val hA75 rfl (r_geq (hA75.get rfl) rfl) fun a76 hA76 _ => ?_)
  refine sq_end ?_
  have hA77 := hA76.keep [(0, Sl.v open_1), (1, .string (Bs name_2)), (2, .int .i64 scope_3), (7, .int .i64 i_13), (12, .bool (decide (0 ≤ i_13)))] ⟨rfl, rfl, rfl, rfl, rfl, trivial⟩
  refine then_normal ?_
  refine wp_cond_split (hA77.get rfl) (fun hc => ?_) (fun hc => ?_)
  · have ht78 := ht73.1 (of_decide_eq_true hc)
    clear hc
    refine wp_skip ?_
    refine then_normal ?_
    refine wp_seq ?_
    refine wp_block ?_
    refine wp_seq ?_
    refine wp_seq ?_
    refine wp_region_lit ?_
    refine sq (opk_val hA77 rfl (r_move (hA77.get rfl)) fun a80 hA80 _ => ?_)
    refine sq (opk_val hA80 rfl (r_move (hA80.get rfl)) fun a81 hA81 _ => ?_)
    obtain ⟨hb83, p_82, hp84, ht85⟩ := ht78
    refine sq (opk_val hA81 rfl (r_indexAddr (hA81.get rfl) (hA81.get rfl) Tryd.underlying22 ti_9 hb83 hp84) fun a86 hA86 _ => ?_)
    obtain ⟨x_88, hx89, ht90⟩ := ht85
    refine sq (opk_val hA86 rfl (r_load1 Tryd.underlying9 rfl (hA86.get rfl) hx89) fun a87 hA87 _ => ?_)
    refine sq (opk_val hA87 rfl (r_move (hA87.get rfl)) fun a91 hA91 _ => ?_)
    refine sq (opk_val hA91 rfl (r_seql (hA91.get rfl) (hA91.get rfl)) fun a92 hA92 _ => ?_)
    refine sq_end ?_
    have hA93 := hA92.keep [(0, Sl.v open_1), (1, .string (Bs name_2)), (2, .int .i64 scope_3), (7, .int .i64 i_13), (20, .bool (decide (x_88 = name_2)))] ⟨rfl, rfl, rfl, rfl, rfl, trivial⟩
    refine then_normal ?_
    refine wp_cond_split (hA93.get rfl) (fun hc => ?_) (fun hc => ?_)
    · have ht94 := ht90.1 (of_decide_eq_true hc)
      clear hc
      refine wp_seq ?_
      refine wp_region_lit ?_
      refine sq (opk_val hA93 rfl (r_assign rfl) fun a96 hA96 _ => ?_)
      refine sq_end ?_
      have hA97 := hA96.keep [(6, .bool true)] ⟨rfl, trivial⟩
      refine then_normal ?_
      refine wp_ret ?_
      refine then_ret ?_
      refine block_ret ?_
      refine then_ret ?_
      refine then_ret ?_
      refine block_ret ?_
      refine then_ret ?_
      exact res_all (vs := [.bool true]) rfl hA97 ⟨res_of_tmp hA97 rfl, trivial⟩ ht94
    · have ht95 := ht90.2 (of_decide_eq_false hc)
      clear hc
      refine wp_skip ?_
      refine then_normal ?_
      refine wp_seq ?_
      refine wp_region_lit ?_
      refine sq (opk_val hA93 rfl (r_move (hA93.get rfl)) fun a98 hA98 _ => ?_)
      refine sq (opk_val hA98 rfl (r_move (hA98.get rfl)) fun a99 hA99 _ => ?_)
      obtain ⟨hb101, p_100, hp102, ht103⟩ := ht95
      refine sq (opk_val hA99 rfl (r_indexAddr (hA99.get rfl) (hA99.get rfl) Tryd.underlying22 ti_9 hb101 hp102) fun a104 hA104 _ => ?_)
      obtain ⟨x_106, hx107, ht108⟩ := ht103
      refine sq (opk_val hA104 rfl (r_load1 Tryd.underlying9 rfl (hA104.get rfl) hx107) fun a105 hA105 _ => ?_)
      refine sq (opk_val hA105 rfl (r_move (hA105.get rfl)) fun a109 hA109 _ => ?_)
      refine sq (opk_call hA109 rfl (r_call (args := #[.string (Bs x_106), .int .i64 scope_3]) Tryd.func23 (by decide) rfl (map_arr (ml_cons (hA109.get rfl) (ml_cons (hA109.get rfl) ml_nil))) rfl) ht108 fun a111 v117 w112 hA111 _ hn114 hz115 hK116 => ?_)
      obtain ⟨r_110, rfl, ht113⟩ := hK116
      refine sq_end ?_
      have hA118 := hA111.keep [(0, Sl.v open_1), (1, .string (Bs name_2)), (2, .int .i64 scope_3), (7, .int .i64 i_13), (26, .bool r_110)] ⟨rfl, rfl, rfl, rfl, rfl, trivial⟩
      refine then_normal ?_
      refine wp_cond_split (hA118.get rfl) (fun hc => ?_) (fun hc => ?_)
      · have ht119 := ht113.1 hc
        clear hc
        refine wp_exit ?_
        refine block_miss rfl ?_
        refine then_exit ?_
        refine then_exit ?_
        refine block_hit ?_
        have hA121 := hA118.keep [] trivial
        refine then_normal ?_
        refine wp_seq ?_
        refine wp_region_lit ?_
        refine sq (opk_val hA121 rfl (r_assign rfl) fun a122 hA122 _ => ?_)
        refine sq_end ?_
        have hA123 := hA122.keep [(6, .bool false)] ⟨rfl, trivial⟩
        refine then_normal ?_
        refine wp_ret ?_
        exact res_all (vs := [.bool false]) rfl hA123 ⟨res_of_tmp hA123 rfl, trivial⟩ ht119
      · have ht120 := ht113.2 hc
        clear hc
        refine wp_skip ?_
        refine block_normal ?_
        refine then_normal ?_
        refine wp_region_lit ?_
        refine sq (opk_val hA118 rfl (r_move (hA118.get rfl)) fun a124 hA124 _ => ?_)
        obtain ⟨hS126, ht127⟩ := ht120
        refine sq (opk_val hA124 rfl (r_subI (hA124.get rfl) rfl hS126) fun a125 hA125 _ => ?_)
        refine sq (opk_val hA125 rfl (r_assign (hA125.get rfl)) fun a128 hA128 _ => ?_)
        refine sq_end ?_
        have hA129 := hA128.keep [(0, Sl.v open_1), (1, .string (Bs name_2)), (2, .int .i64 scope_3), (7, .int .i64 (i_13 - 1))] ⟨rfl, rfl, rfl, rfl, trivial⟩
        have hA130 := hA129.keep [(0, Sl.v open_1), (1, .string (Bs name_2)), (2, .int .i64 scope_3), (7, .int .i64 (i_13 - 1))] ⟨rfl, rfl, rfl, rfl, trivial⟩
        exact then_normal ⟨(i_13 - 1, w112), ⟨hA130, rfl, ht127.1⟩, ht127.2⟩
  · have ht79 := ht73.2 (of_decide_eq_false hc)
    clear hc
    refine wp_exit ?_
    refine then_exit ?_
    refine then_exit ?_
    refine block_hit ?_
    have hA131 := hA77.keep [] trivial
    refine then_normal ?_
    refine wp_seq ?_
    refine wp_region_lit ?_
    refine sq (opk_val hA131 rfl (r_assign rfl) fun a132 hA132 _ => ?_)
    refine sq_end ?_
    have hA133 := hA132.keep [(6, .bool false)] ⟨rfl, trivial⟩
    refine then_normal ?_
    refine wp_ret ?_
    exact res_all (vs := [.bool false]) rfl hA133 ⟨res_of_tmp hA133 rfl, trivial⟩ ht79

/-- The condition of topiary/stack.Implied. -/
def stack_Implied.vc (open_1 : Sl) (but_2 : Str) (R : Value → World → Prop) (w : World) : Prop :=
∃ (J_9 : Int → World → Prop) (mu_10 : Int → World → Nat),
J_9 0 w ∧
(∀ (n_7 : Int) (w8 : World), J_9 n_7 w8 →
((n_7 < (open_1.n : Int)) →
(I64 ((open_1.n : Int) - 1)) ∧
(I64 (((open_1.n : Int) - 1) - n_7)) ∧
((0 : Int) ≤ ((open_1.n : Int) - 1) - n_7 ∧ ((open_1.n : Int) - 1) - n_7 < (open_1.n : Int)) ∧ ∃ p_86 : Addr, open_1.a = some p_86 ∧
∃ (x_92 : Str), (w8.cell? (p_86.add ((((open_1.n : Int) - 1) - n_7).toNat * 1)) = some (.string (Bs x_92))) ∧
∃ (r_102 : Bool), (((¬ (x_92 = but_2))) → Calls Tryd.prog 9 #[.string (Bs x_92), .int .i64 4] w8 (Ret fun v w' => Ext w8 w' ∧ v = .bool r_102)) ∧
(∀ w104 : World, Ext w8 w104 →
(((x_92 = but_2) ∨ (r_102 = false)) →
R (.int .i64 n_7) w104) ∧
(((¬ (x_92 = but_2)) ∧ (r_102 = true)) →
(I64 (n_7 + 1)) ∧
J_9 (n_7 + 1) w104 ∧ mu_10 (n_7 + 1) w104 < mu_10 n_7 w8))) ∧
((¬ (n_7 < (open_1.n : Int))) →
R (.int .i64 n_7) w8))
set_option maxHeartbeats 1000000 in
set_option maxRecDepth 10000 in
theorem stack_Implied.ok (open_1 : Sl) (but_2 : Str) {R : Value → World → Prop} {w : World} (ht0 : stack_Implied.vc open_1 but_2 R w) : Calls Tryd.prog 16 #[Sl.v open_1, .string (Bs but_2)] w (Ret R) := by
  refine enter [Sl.v open_1, .string (Bs but_2)] Tryd.func16 rfl Tryd.ntmps16 rfl ?_
  intro a0 hA0
  unfold stack_Implied.vc at ht0
  refine wp_seq ?_
  refine wp_region_lit ?_
  refine sq (opk_val hA0 rfl (r_assign rfl) fun a3 hA3 _ => ?_)
  refine sq_end ?_
  have hA4 := hA3.keep [(0, Sl.v open_1), (1, .string (Bs but_2))] ⟨rfl, rfl, trivial⟩
  refine then_normal ?_
  refine wp_seq ?_
  refine wp_region_lit ?_
  refine sq (opk_val hA4 rfl (r_assign rfl) fun a5 hA5 _ => ?_)
  refine sq_end ?_
  have hA6 := hA5.keep [(0, Sl.v open_1), (1, .string (Bs but_2)), (5, .int .i64 0)] ⟨rfl, rfl, rfl, trivial⟩
  refine then_normal ?_
  refine wp_seq ?_
  refine wp_block ?_
  obtain ⟨J_9, mu_10, h066, ht65⟩ := ht0
  refine wp_loop_st (σ := Int × World) (fun s a w => Ag 30 a [(0, Sl.v open_1), (1, .string (Bs but_2)), (5, .int .i64 s.1)] ∧ w = s.2 ∧ J_9 s.1 s.2) (fun s => mu_10 s.1 s.2) (0, w) ⟨hA6.keep [(0, Sl.v open_1), (1, .string (Bs but_2)), (5, .int .i64 0)] ⟨rfl, rfl, rfl, trivial⟩, rfl, h066⟩ ?_
  rintro ⟨n_7, w8⟩ a64 w_ ⟨hA64, hw_, hJ68⟩
  have hw_ : w8 = w_ := hw_.symm
  subst hw_
  have ht67 := ht65 n_7 _ hJ68
  refine wp_seq ?_
  refine wp_seq ?_
  refine wp_region_lit ?_
  refine sq (opk_val hA64 rfl (r_move (hA64.get rfl)) fun a69 hA69 _ => ?_)
  refine sq (opk_val hA69 rfl (r_move (hA69.get rfl)) fun a70 hA70 _ => ?_)
  refine sq (opk_val hA70 rfl (r_len (hA70.get rfl) Tryd.underlying22) fun a71 hA71 _ => ?_)
  refine sq (opk_val hA71 rfl (r_lss (hA71.get rfl) (hA71.get rfl)) fun a72 hA72 _ => ?_)
  refine sq_end ?_
  have hA73 := hA72.keep [(0, Sl.v open_1), (1, .string (Bs but_2)), (5, .int .i64 n_7), (10, .bool (decide (n_7 < (open_1.n : Int))))] ⟨rfl, rfl, rfl, rfl, trivial⟩
  refine then_normal ?_
  refine wp_cond_split (hA73.get rfl) (fun hc => ?_) (fun hc => ?_)
  · have ht74 := ht67.1 (of_decide_eq_true hc)
    clear hc
    refine wp_skip ?_
    refine then_normal ?_
    refine wp_block ?_
    refine wp_seq ?_
    refine wp_region_lit ?_
    refine sq (opk_val hA73 rfl (r_move (hA73.get rfl)) fun a76 hA76 _ => ?_)
    refine sq (opk_val hA76 rfl (r_move (hA76.get rfl)) fun a77 hA77 _ => ?_)
    refine sq (opk_val hA77 rfl (r_len (hA77.get rfl) Tryd.underlying22) fun a78 hA78 _ => ?_)
    obtain ⟨hS80, ht81⟩ := ht74
    refine sq (opk_val hA78 rfl (r_subI (hA78.get rfl) rfl hS80) fun a79 hA79 _ => ?_)
    refine sq (opk_val hA79 rfl (r_move (hA79.get rfl)) fun a82 hA82 _ => ?_)
    obtain ⟨hS84, ht85⟩ := ht81
    refine sq (opk_val hA82 rfl (r_subI (hA82.get rfl) (hA82.get rfl) hS84) fun a83 hA83 _ => ?_)
    obtain ⟨hb87, p_86, hp88, ht89⟩ := ht85
    refine sq (opk_val hA83 rfl (r_indexAddr (hA83.get rfl) (hA83.get rfl) Tryd.underlying22 ti_9 hb87 hp88) fun a90 hA90 _ => ?_)
    obtain ⟨x_92, hx93, ht94⟩ := ht89
    refine sq (opk_val hA90 rfl (r_load1 Tryd.underlying9 rfl (hA90.get rfl) hx93) fun a91 hA91 _ => ?_)
    refine sq (opk_val hA91 rfl (r_assign (hA91.get rfl)) fun a95 hA95 _ => ?_)
    refine sq_end ?_
    have hA96 := hA95.keep [(0, Sl.v open_1), (1, .string (Bs but_2)), (5, .int .i64 n_7), (6, .string (Bs x_92))] ⟨rfl, rfl, rfl, rfl, trivial⟩
    refine then_normal ?_
    refine wp_seq ?_
    refine wp_seq ?_
    refine wp_region_lit ?_
    refine sq (opk_val hA96 rfl (r_move (hA96.get rfl)) fun a97 hA97 _ => ?_)
    refine sq (opk_val hA97 rfl (r_move (hA97.get rfl)) fun a98 hA98 _ => ?_)
    refine sq (opk_val hA98 rfl (r_seql (hA98.get rfl) (hA98.get rfl)) fun a99 hA99 _ => ?_)
    refine sq (opk_val hA99 rfl (r_move (hA99.get rfl)) fun a100 hA100 _ => ?_)
    refine sq (opk_gval hA100 rfl rfl (g := true) (e := (decide (x_92 = but_2))) rfl (fun hg => r_move (hA100.get rfl)) fun a101 hA101 _ => ?_)
    obtain ⟨r_102, hc106, ht105⟩ := ht94
    refine sq (opk_gcall hA101 rfl rfl (g := true) (e := (decide (x_92 = but_2))) rfl (fun hg => r_call (args := #[.string (Bs x_92), .int .i64 4]) Tryd.func9 (by decide) rfl (map_arr (ml_cons (cv_get (hA101.get rfl) hg) (ml_cons rfl ml_nil))) rfl) (fun hg => hc106 (of_decide_eq_false (g_f hg))) fun a103 w104 hA103 _ hE107 => ?_)
    have hC108 : Chg [] w8 w104 := hE107
    have ht109 := ht105 w104 hE107
    refine sq (opk_gval hA103 rfl rfl (g := true) (e := (decide (x_92 = but_2))) rfl (fun hg => r_not (cv_get (hA103.get rfl) hg)) fun a110 hA110 _ => ?_)
    refine sq (opk_val hA110 rfl (r_pick_or (g := (true && ((decide (x_92 = but_2)) == false))) (hA110.get rfl) (hA110.get rfl) (fun he => g_mkf rfl he)) fun a111 hA111 _ => ?_)
    refine sq_end ?_
    have hA112 := hA111.keep [(0, Sl.v open_1), (1, .string (Bs but_2)), (5, .int .i64 n_7), (26, .bool ((decide (x_92 = but_2)) || (!r_102)))] ⟨rfl, rfl, rfl, rfl, trivial⟩
    refine then_normal ?_
    refine wp_cond_split (hA112.get rfl) (fun hc => ?_) (fun hc => ?_)
    · have ht113 := ht109.1 ((b_or_t hc).imp (fun h => (of_decide_eq_true h)) (fun h => (b_not_t h)))
      clear hc
      refine wp_exit ?_
      refine then_exit ?_
      refine block_miss rfl ?_
      refine then_exit ?_
      refine block_hit ?_
      have hA115 := hA112.keep [(5, .int .i64 n_7)] ⟨rfl, trivial⟩
      refine then_normal ?_
      refine wp_seq ?_
      refine wp_region_lit ?_
      refine sq (opk_val hA115 rfl (r_move (hA115.get rfl)) fun a116 hA116 _ => ?_)
      refine sq (opk_val hA116 rfl (r_assign (hA116.get rfl)) fun a117 hA117 _ => ?_)
      refine sq_end ?_
      have hA118 := hA117.keep [(4, .int .i64 n_7)] ⟨rfl, trivial⟩
      refine then_normal ?_
      refine wp_ret ?_
      exact res_all (vs := [.int .i64 n_7]) rfl hA118 ⟨res_of_tmp hA118 rfl, trivial⟩ ht113
    · have ht114 := ht109.2 ⟨(of_decide_eq_false (b_or_f hc).1), (b_not_f (b_or_f hc).2)⟩
      clear hc
      refine wp_skip ?_
      refine then_normal ?_
      refine wp_region_lit ?_
      refine sq (opk_val hA112 rfl (r_move (hA112.get rfl)) fun a119 hA119 _ => ?_)
      obtain ⟨hS121, ht122⟩ := ht114
      refine sq (opk_val hA119 rfl (r_addI (hA119.get rfl) rfl hS121) fun a120 hA120 _ => ?_)
      refine sq (opk_val hA120 rfl (r_assign (hA120.get rfl)) fun a123 hA123 _ => ?_)
      refine sq_end ?_
      have hA124 := hA123.keep [(0, Sl.v open_1), (1, .string (Bs but_2)), (5, .int .i64 (n_7 + 1))] ⟨rfl, rfl, rfl, trivial⟩
      refine block_normal ?_
      have hA125 := hA124.keep [(0, Sl.v open_1), (1, .string (Bs but_2)), (5, .int .i64 (n_7 + 1))] ⟨rfl, rfl, rfl, trivial⟩
      exact then_normal ⟨(n_7 + 1, w104), ⟨hA125, rfl, ht122.1⟩, ht122.2⟩
  · have ht75 := ht67.2 (of_decide_eq_false hc)
    clear hc
    refine wp_exit ?_
    refine then_exit ?_
    refine then_exit ?_
    refine block_hit ?_
    have hA126 := hA73.keep [(5, .int .i64 n_7)] ⟨rfl, trivial⟩
    refine then_normal ?_
    refine wp_seq ?_
    refine wp_region_lit ?_
    refine sq (opk_val hA126 rfl (r_move (hA126.get rfl)) fun a127 hA127 _ => ?_)
    refine sq (opk_val hA127 rfl (r_assign (hA127.get rfl)) fun a128 hA128 _ => ?_)
    refine sq_end ?_
    have hA129 := hA128.keep [(4, .int .i64 n_7)] ⟨rfl, trivial⟩
    refine then_normal ?_
    refine wp_ret ?_
    exact res_all (vs := [.int .i64 n_7]) rfl hA129 ⟨res_of_tmp hA129 rfl, trivial⟩ ht75

/-- The condition of topiary/stack.Until. -/
def stack_Until.vc (open_1 : Sl) (names_2 : Sl) (R : Value → World → Prop) (w : World) : Prop :=
∃ (J_9 : Int → World → Prop) (mu_10 : Int → World → Nat),
J_9 1 w ∧
(∀ (n_7 : Int) (w8 : World), J_9 n_7 w8 →
((n_7 ≤ (open_1.n : Int)) →
∃ (J_147 : Int → World → Prop) (mu_148 : Int → World → Nat),
J_147 0 w8 ∧
(∀ (x_145 : Int) (w146 : World), J_147 x_145 w146 →
((x_145 < (names_2.n : Int)) →
((0 : Int) ≤ x_145 ∧ x_145 < (names_2.n : Int)) ∧ ∃ p_203 : Addr, names_2.a = some p_203 ∧
∃ (x_209 : Str), (w146.cell? (p_203.add (x_145.toNat * 1)) = some (.string (Bs x_209))) ∧
(I64 ((open_1.n : Int) - n_7)) ∧
((0 : Int) ≤ (open_1.n : Int) - n_7 ∧ (open_1.n : Int) - n_7 < (open_1.n : Int)) ∧ ∃ p_221 : Addr, open_1.a = some p_221 ∧
∃ (x_227 : Str), (w146.cell? (p_221.add (((open_1.n : Int) - n_7).toNat * 1)) = some (.string (Bs x_227))) ∧
((x_227 = x_209) →
R (.int .i64 n_7) w146) ∧
((¬ (x_227 = x_209)) →
(I64 (x_145 + 1)) ∧
J_147 (x_145 + 1) w146 ∧ mu_148 (x_145 + 1) w146 < mu_148 x_145 w146)) ∧
((¬ (x_145 < (names_2.n : Int))) →
(I64 (n_7 + 1)) ∧
J_9 (n_7 + 1) w146 ∧ mu_10 (n_7 + 1) w146 < mu_10 n_7 w8))) ∧
((¬ (n_7 ≤ (open_1.n : Int))) →
R (.int .i64 0) w8))
set_option maxHeartbeats 1000000 in
set_option maxRecDepth 10000 in
theorem stack_Until.ok (open_1 : Sl) (names_2 : Sl) {R : Value → World → Prop} {w : World} (ht0 : stack_Until.vc open_1 names_2 R w) : Calls Tryd.prog 18 #[Sl.v open_1, Sl.v names_2] w (Ret R) := by
  refine enter [Sl.v open_1, Sl.v names_2] Tryd.func18 rfl Tryd.ntmps18 rfl ?_
  intro a0 hA0
  unfold stack_Until.vc at ht0
  refine wp_seq ?_
  refine wp_region_lit ?_
  refine sq (opk_val hA0 rfl (r_assign rfl) fun a3 hA3 _ => ?_)
  refine sq_end ?_
  have hA4 := hA3.keep [(0, Sl.v open_1), (1, Sl.v names_2)] ⟨rfl, rfl, trivial⟩
  refine then_normal ?_
  refine wp_seq ?_
  refine wp_seq ?_
  refine wp_region_lit ?_
  refine sq (opk_val hA4 rfl (r_assign rfl) fun a5 hA5 _ => ?_)
  refine sq_end ?_
  have hA6 := hA5.keep [(0, Sl.v open_1), (1, Sl.v names_2), (5, .int .i64 1)] ⟨rfl, rfl, rfl, trivial⟩
  refine then_normal ?_
  refine wp_block ?_
  obtain ⟨J_9, mu_10, h0131, ht130⟩ := ht0
  refine wp_loop_st (σ := Int × World) (fun s a w => Ag 31 a [(0, Sl.v open_1), (1, Sl.v names_2), (5, .int .i64 s.1)] ∧ w = s.2 ∧ J_9 s.1 s.2) (fun s => mu_10 s.1 s.2) (1, w) ⟨hA6.keep [(0, Sl.v open_1), (1, Sl.v names_2), (5, .int .i64 1)] ⟨rfl, rfl, rfl, trivial⟩, rfl, h0131⟩ ?_
  rintro ⟨n_7, w8⟩ a129 w_ ⟨hA129, hw_, hJ133⟩
  have hw_ : w8 = w_ := hw_.symm
  subst hw_
  have ht132 := ht130 n_7 _ hJ133
  refine wp_seq ?_
  refine wp_seq ?_
  refine wp_region_lit ?_
  refine sq (opk_val hA129 rfl (r_move (hA129.get rfl)) fun a134 hA134 _ => ?_)
  refine sq (opk_val hA134 rfl (r_move (hA134.get rfl)) fun a135 hA135 _ => ?_)
  refine sq (opk_val hA135 rfl (r_len (hA135.get rfl) Tryd.underlying22) fun a136 hA136 _ => ?_)
  refine sq (opk_val hA136 rfl (r_leq (hA136.get rfl) (hA136.get rfl)) fun a137 hA137 _ => ?_)
  refine sq_end ?_
  have hA138 := hA137.keep [(0, Sl.v open_1), (1, Sl.v names_2), (5, .int .i64 n_7), (11, .bool (decide (n_7 ≤ (open_1.n : Int))))] ⟨rfl, rfl, rfl, rfl, trivial⟩
  refine then_normal ?_
  refine wp_cond_split (hA138.get rfl) (fun hc => ?_) (fun hc => ?_)
  · have ht139 := ht132.1 (of_decide_eq_true hc)
    clear hc
    refine wp_skip ?_
    refine then_normal ?_
    refine wp_seq ?_
    refine wp_block ?_
    refine wp_seq ?_
    refine wp_region_lit ?_
    refine sq (opk_val hA138 rfl (r_move (hA138.get rfl)) fun a141 hA141 _ => ?_)
    refine sq (opk_val hA141 rfl (r_len (hA141.get rfl) Tryd.underlying22) fun a142 hA142 _ => ?_)
    refine sq (opk_val hA142 rfl (r_move rfl) fun a143 hA143 _ => ?_)
    refine sq_end ?_
    have hA144 := hA143.keep [(0, Sl.v open_1), (1, Sl.v names_2), (5, .int .i64 n_7), (14, Sl.v names_2), (15, .int .i64 (names_2.n : Int)), (16, .int .i64 0)] ⟨rfl, rfl, rfl, rfl, rfl, rfl, trivial⟩
    refine then_normal ?_
    refine wp_block ?_
    obtain ⟨J_147, mu_148, h0196, ht195⟩ := ht139
    refine wp_loop_st (σ := Int × World) (fun s a w => Ag 31 a [(0, Sl.v open_1), (1, Sl.v names_2), (5, .int .i64 n_7), (14, Sl.v names_2), (15, .int .i64 (names_2.n : Int)), (16, .int .i64 s.1)] ∧ w = s.2 ∧ J_147 s.1 s.2) (fun s => mu_148 s.1 s.2) (0, w8) ⟨hA144.keep [(0, Sl.v open_1), (1, Sl.v names_2), (5, .int .i64 n_7), (14, Sl.v names_2), (15, .int .i64 (names_2.n : Int)), (16, .int .i64 0)] ⟨rfl, rfl, rfl, rfl, rfl, rfl, trivial⟩, rfl, h0196⟩ ?_
    rintro ⟨x_145, w146⟩ a194 w_ ⟨hA194, hw_, hJ198⟩
    have hw_ : w146 = w_ := hw_.symm
    subst hw_
    have ht197 := ht195 x_145 _ hJ198
    refine wp_seq ?_
    refine wp_region_lit ?_
    refine sq (opk_val hA194 rfl (r_lss (hA194.get rfl) (hA194.get rfl)) fun a199 hA199 _ => ?_)
    refine sq_end ?_
    have hA200 := hA199.keep [(0, Sl.v open_1), (1, Sl.v names_2), (5, .int .i64 n_7), (14, Sl.v names_2), (15, .int .i64 (names_2.n : Int)), (16, .int .i64 x_145), (17, .bool (decide (x_145 < (names_2.n : Int))))] ⟨rfl, rfl, rfl, rfl, rfl, rfl, rfl, trivial⟩
    refine then_normal ?_
    refine wp_seq ?_
    refine wp_cond_split (hA200.get rfl) (fun hc => ?_) (fun hc => ?_)
    · have ht201 := ht197.1 (of_decide_eq_true hc)
      clear hc
      refine wp_skip ?_
      refine then_normal ?_
      refine wp_seq ?_
      refine wp_block ?_
      refine wp_seq ?_
      refine wp_region_lit ?_
      obtain ⟨hb204, p_203, hp205, ht206⟩ := ht201
      refine sq (opk_val hA200 rfl (r_indexAddr (hA200.get rfl) (hA200.get rfl) Tryd.underlying22 ti_9 hb204 hp205) fun a207 hA207 _ => ?_)
      obtain ⟨x_209, hx210, ht211⟩ := ht206
      refine sq (opk_val hA207 rfl (r_load1 Tryd.underlying9 rfl (hA207.get rfl) hx210) fun a208 hA208 _ => ?_)
      refine sq (opk_val hA208 rfl (r_assign (hA208.get rfl)) fun a212 hA212 _ => ?_)
      refine sq_end ?_
      have hA213 := hA212.keep [(0, Sl.v open_1), (1, Sl.v names_2), (5, .int .i64 n_7), (7, .string (Bs x_209)), (14, Sl.v names_2), (15, .int .i64 (names_2.n : Int)), (16, .int .i64 x_145)] ⟨rfl, rfl, rfl, rfl, rfl, rfl, rfl, trivial⟩
      refine then_normal ?_
      refine wp_seq ?_
      refine wp_region_lit ?_
      refine sq (opk_val hA213 rfl (r_move (hA213.get rfl)) fun a214 hA214 _ => ?_)
      refine sq (opk_val hA214 rfl (r_move (hA214.get rfl)) fun a215 hA215 _ => ?_)
      refine sq (opk_val hA215 rfl (r_len (hA215.get rfl) Tryd.underlying22) fun a216 hA216 _ => ?_)
      refine sq (opk_val hA216 rfl (r_move (hA216.get rfl)) fun a217 hA217 _ => ?_)
      obtain ⟨hS219, ht220⟩ := ht211
      refine sq (opk_val hA217 rfl (r_subI (hA217.get rfl) (hA217.get rfl) hS219) fun a218 hA218 _ => ?_)
      obtain ⟨hb222, p_221, hp223, ht224⟩ := ht220
      refine sq (opk_val hA218 rfl (r_indexAddr (hA218.get rfl) (hA218.get rfl) Tryd.underlying22 ti_9 hb222 hp223) fun a225 hA225 _ => ?_)
      obtain ⟨x_227, hx228, ht229⟩ := ht224
      refine sq (opk_val hA225 rfl (r_load1 Tryd.underlying9 rfl (hA225.get rfl) hx228) fun a226 hA226 _ => ?_)
      refine sq (opk_val hA226 rfl (r_move (hA226.get rfl)) fun a230 hA230 _ => ?_)
      refine sq (opk_val hA230 rfl (r_seql (hA230.get rfl) (hA230.get rfl)) fun a231 hA231 _ => ?_)
      refine sq_end ?_
      have hA232 := hA231.keep [(0, Sl.v open_1), (1, Sl.v names_2), (5, .int .i64 n_7), (14, Sl.v names_2), (15, .int .i64 (names_2.n : Int)), (16, .int .i64 x_145), (28, .bool (decide (x_227 = x_209)))] ⟨rfl, rfl, rfl, rfl, rfl, rfl, rfl, trivial⟩
      refine then_normal ?_
      refine wp_cond_split (hA232.get rfl) (fun hc => ?_) (fun hc => ?_)
      · have ht233 := ht229.1 (of_decide_eq_true hc)
        clear hc
        refine wp_seq ?_
        refine wp_region_lit ?_
        refine sq (opk_val hA232 rfl (r_move (hA232.get rfl)) fun a235 hA235 _ => ?_)
        refine sq (opk_val hA235 rfl (r_assign (hA235.get rfl)) fun a236 hA236 _ => ?_)
        refine sq_end ?_
        have hA237 := hA236.keep [(4, .int .i64 n_7)] ⟨rfl, trivial⟩
        refine then_normal ?_
        refine wp_ret ?_
        refine block_ret ?_
        refine then_ret ?_
        refine then_ret ?_
        refine block_ret ?_
        refine block_ret ?_
        refine then_ret ?_
        refine then_ret ?_
        refine block_ret ?_
        refine then_ret ?_
        exact res_all (vs := [.int .i64 n_7]) rfl hA237 ⟨res_of_tmp hA237 rfl, trivial⟩ ht233
      · have ht234 := ht229.2 (of_decide_eq_false hc)
        clear hc
        refine wp_skip ?_
        refine block_normal ?_
        refine then_normal ?_
        refine wp_region_lit ?_
        obtain ⟨hS239, ht240⟩ := ht234
        refine sq (opk_val hA232 rfl (r_addI (hA232.get rfl) rfl hS239) fun a238 hA238 _ => ?_)
        refine sq (opk_val hA238 rfl (r_move (hA238.get rfl)) fun a241 hA241 _ => ?_)
        refine sq_end ?_
        have hA242 := hA241.keep [(0, Sl.v open_1), (1, Sl.v names_2), (5, .int .i64 n_7), (14, Sl.v names_2), (15, .int .i64 (names_2.n : Int)), (16, .int .i64 (x_145 + 1))] ⟨rfl, rfl, rfl, rfl, rfl, rfl, trivial⟩
        have hA243 := hA242.keep [(0, Sl.v open_1), (1, Sl.v names_2), (5, .int .i64 n_7), (14, Sl.v names_2), (15, .int .i64 (names_2.n : Int)), (16, .int .i64 (x_145 + 1))] ⟨rfl, rfl, rfl, rfl, rfl, rfl, trivial⟩
        exact then_normal ⟨(x_145 + 1, w146), ⟨hA243, rfl, ht240.1⟩, ht240.2⟩
    · have ht202 := ht197.2 (of_decide_eq_false hc)
      clear hc
      refine wp_exit ?_
      refine then_exit ?_
      refine then_exit ?_
      refine block_hit ?_
      have hA244 := hA200.keep [(0, Sl.v open_1), (1, Sl.v names_2), (5, .int .i64 n_7)] ⟨rfl, rfl, rfl, trivial⟩
      refine block_normal ?_
      refine then_normal ?_
      refine wp_region_lit ?_
      refine sq (opk_val hA244 rfl (r_move (hA244.get rfl)) fun a245 hA245 _ => ?_)
      obtain ⟨hS247, ht248⟩ := ht202
      refine sq (opk_val hA245 rfl (r_addI (hA245.get rfl) rfl hS247) fun a246 hA246 _ => ?_)
      refine sq (opk_val hA246 rfl (r_assign (hA246.get rfl)) fun a249 hA249 _ => ?_)
      refine sq_end ?_
      have hA250 := hA249.keep [(0, Sl.v open_1), (1, Sl.v names_2), (5, .int .i64 (n_7 + 1))] ⟨rfl, rfl, rfl, trivial⟩
      have hA251 := hA250.keep [(0, Sl.v open_1), (1, Sl.v names_2), (5, .int .i64 (n_7 + 1))] ⟨rfl, rfl, rfl, trivial⟩
      exact then_normal ⟨(n_7 + 1, w146), ⟨hA251, rfl, ht248.1⟩, ht248.2⟩
  · have ht140 := ht132.2 (of_decide_eq_false hc)
    clear hc
    refine wp_exit ?_
    refine then_exit ?_
    refine then_exit ?_
    refine block_hit ?_
    have hA252 := hA138.keep [] trivial
    refine then_normal ?_
    refine wp_seq ?_
    refine wp_region_lit ?_
    refine sq (opk_val hA252 rfl (r_assign rfl) fun a253 hA253 _ => ?_)
    refine sq_end ?_
    have hA254 := hA253.keep [(4, .int .i64 0)] ⟨rfl, trivial⟩
    refine then_normal ?_
    refine wp_ret ?_
    exact res_all (vs := [.int .i64 0]) rfl hA254 ⟨res_of_tmp hA254 rfl, trivial⟩ ht140

/-- The condition of topiary/stack.among. -/
def stack_among.vc (l_1 : Str) (name_2 : Str) (R : Value → World → Prop) (w : World) : Prop :=
CallK Tryd.prog 25 #[.string (Bs l_1)] w [] (fun v w8 => ∃ (r_6 : Sl), v = Sl.v r_6 ∧
∃ (J_19 : Int → World → Prop) (mu_20 : Int → World → Nat),
J_19 0 w8 ∧
(∀ (x_17 : Int) (w18 : World), J_19 x_17 w18 →
((x_17 < (r_6.n : Int)) →
((0 : Int) ≤ x_17 ∧ x_17 < (r_6.n : Int)) ∧ ∃ p_59 : Addr, r_6.a = some p_59 ∧
∃ (x_65 : Str), (w18.cell? (p_59.add (x_17.toNat * 1)) = some (.string (Bs x_65))) ∧
((x_65 = name_2) →
R (.bool true) w18) ∧
((¬ (x_65 = name_2)) →
(I64 (x_17 + 1)) ∧
J_19 (x_17 + 1) w18 ∧ mu_20 (x_17 + 1) w18 < mu_20 x_17 w18)) ∧
((¬ (x_17 < (r_6.n : Int))) →
R (.bool false) w18)))
set_option maxHeartbeats 1000000 in
set_option maxRecDepth 10000 in
theorem stack_among.ok (l_1 : Str) (name_2 : Str) {R : Value → World → Prop} {w : World} (ht0 : stack_among.vc l_1 name_2 R w) : Calls Tryd.prog 20 #[.string (Bs l_1), .string (Bs name_2)] w (Ret R) := by
  refine enter [.string (Bs l_1), .string (Bs name_2)] Tryd.func20 rfl Tryd.ntmps20 rfl ?_
  intro a0 hA0
  unfold stack_among.vc at ht0
  refine wp_seq ?_
  refine wp_region_lit ?_
  refine sq (opk_val hA0 rfl (r_assign rfl) fun a3 hA3 _ => ?_)
  refine sq_end ?_
  have hA4 := hA3.keep [(0, .string (Bs l_1)), (1, .string (Bs name_2))] ⟨rfl, rfl, trivial⟩
  refine then_normal ?_
  refine wp_seq ?_
  refine wp_seq ?_
  refine wp_region_lit ?_
  refine sq (opk_val hA4 rfl (r_move (hA4.get rfl)) fun a5 hA5 _ => ?_)
  refine sq (opk_call hA5 rfl (r_call (args := #[.string (Bs l_1)]) Tryd.func25 (by decide) rfl (map_arr (ml_cons (hA5.get rfl) ml_nil)) rfl) ht0 fun a7 v13 w8 hA7 _ hn10 hz11 hK12 => ?_)
  obtain ⟨r_6, rfl, ht9⟩ := hK12
  refine sq (opk_val hA7 rfl (r_len (hA7.get rfl) Tryd.underlying22) fun a14 hA14 _ => ?_)
  refine sq (opk_val hA14 rfl (r_move rfl) fun a15 hA15 _ => ?_)
  refine sq_end ?_
  have hA16 := hA15.keep [(1, .string (Bs name_2)), (8, Sl.v r_6), (9, .int .i64 (r_6.n : Int)), (10, .int .i64 0)] ⟨rfl, rfl, rfl, rfl, trivial⟩
  refine then_normal ?_
  refine wp_block ?_
  obtain ⟨J_19, mu_20, h052, ht51⟩ := ht9
  refine wp_loop_st (σ := Int × World) (fun s a w => Ag 18 a [(1, .string (Bs name_2)), (8, Sl.v r_6), (9, .int .i64 (r_6.n : Int)), (10, .int .i64 s.1)] ∧ w = s.2 ∧ J_19 s.1 s.2) (fun s => mu_20 s.1 s.2) (0, w8) ⟨hA16.keep [(1, .string (Bs name_2)), (8, Sl.v r_6), (9, .int .i64 (r_6.n : Int)), (10, .int .i64 0)] ⟨rfl, rfl, rfl, rfl, trivial⟩, rfl, h052⟩ ?_
  rintro ⟨x_17, w18⟩ a50 w_ ⟨hA50, hw_, hJ54⟩
  have hw_ : w18 = w_ := hw_.symm
  subst hw_
  have ht53 := ht51 x_17 _ hJ54
  refine wp_seq ?_
  refine wp_region_lit ?_
  refine sq (opk_val hA50 rfl (r_lss (hA50.get rfl) (hA50.get rfl)) fun a55 hA55 _ => ?_)
  refine sq_end ?_
  have hA56 := hA55.keep [(1, .string (Bs name_2)), (8, Sl.v r_6), (9, .int .i64 (r_6.n : Int)), (10, .int .i64 x_17), (11, .bool (decide (x_17 < (r_6.n : Int))))] ⟨rfl, rfl, rfl, rfl, rfl, trivial⟩
  refine then_normal ?_
  refine wp_seq ?_
  refine wp_cond_split (hA56.get rfl) (fun hc => ?_) (fun hc => ?_)
  · have ht57 := ht53.1 (of_decide_eq_true hc)
    clear hc
    refine wp_skip ?_
    refine then_normal ?_
    refine wp_seq ?_
    refine wp_block ?_
    refine wp_seq ?_
    refine wp_region_lit ?_
    obtain ⟨hb60, p_59, hp61, ht62⟩ := ht57
    refine sq (opk_val hA56 rfl (r_indexAddr (hA56.get rfl) (hA56.get rfl) Tryd.underlying22 ti_9 hb60 hp61) fun a63 hA63 _ => ?_)
    obtain ⟨x_65, hx66, ht67⟩ := ht62
    refine sq (opk_val hA63 rfl (r_load1 Tryd.underlying9 rfl (hA63.get rfl) hx66) fun a64 hA64 _ => ?_)
    refine sq (opk_val hA64 rfl (r_assign (hA64.get rfl)) fun a68 hA68 _ => ?_)
    refine sq_end ?_
    have hA69 := hA68.keep [(1, .string (Bs name_2)), (6, .string (Bs x_65)), (8, Sl.v r_6), (9, .int .i64 (r_6.n : Int)), (10, .int .i64 x_17)] ⟨rfl, rfl, rfl, rfl, rfl, trivial⟩
    refine then_normal ?_
    refine wp_seq ?_
    refine wp_region_lit ?_
    refine sq (opk_val hA69 rfl (r_move (hA69.get rfl)) fun a70 hA70 _ => ?_)
    refine sq (opk_val hA70 rfl (r_move (hA70.get rfl)) fun a71 hA71 _ => ?_)
    refine sq (opk_val hA71 rfl (r_seql (hA71.get rfl) (hA71.get rfl)) fun a72 hA72 _ => ?_)
    refine sq_end ?_
    have hA73 := hA72.keep [(1, .string (Bs name_2)), (8, Sl.v r_6), (9, .int .i64 (r_6.n : Int)), (10, .int .i64 x_17), (16, .bool (decide (x_65 = name_2)))] ⟨rfl, rfl, rfl, rfl, rfl, trivial⟩
    refine then_normal ?_
    refine wp_cond_split (hA73.get rfl) (fun hc => ?_) (fun hc => ?_)
    · have ht74 := ht67.1 (of_decide_eq_true hc)
      clear hc
      refine wp_seq ?_
      refine wp_region_lit ?_
      refine sq (opk_val hA73 rfl (r_assign rfl) fun a76 hA76 _ => ?_)
      refine sq_end ?_
      have hA77 := hA76.keep [(4, .bool true)] ⟨rfl, trivial⟩
      refine then_normal ?_
      refine wp_ret ?_
      refine block_ret ?_
      refine then_ret ?_
      refine then_ret ?_
      refine block_ret ?_
      refine then_ret ?_
      exact res_all (vs := [.bool true]) rfl hA77 ⟨res_of_tmp hA77 rfl, trivial⟩ ht74
    · have ht75 := ht67.2 (of_decide_eq_false hc)
      clear hc
      refine wp_skip ?_
      refine block_normal ?_
      refine then_normal ?_
      refine wp_region_lit ?_
      obtain ⟨hS79, ht80⟩ := ht75
      refine sq (opk_val hA73 rfl (r_addI (hA73.get rfl) rfl hS79) fun a78 hA78 _ => ?_)
      refine sq (opk_val hA78 rfl (r_move (hA78.get rfl)) fun a81 hA81 _ => ?_)
      refine sq_end ?_
      have hA82 := hA81.keep [(1, .string (Bs name_2)), (8, Sl.v r_6), (9, .int .i64 (r_6.n : Int)), (10, .int .i64 (x_17 + 1))] ⟨rfl, rfl, rfl, rfl, trivial⟩
      have hA83 := hA82.keep [(1, .string (Bs name_2)), (8, Sl.v r_6), (9, .int .i64 (r_6.n : Int)), (10, .int .i64 (x_17 + 1))] ⟨rfl, rfl, rfl, rfl, trivial⟩
      exact then_normal ⟨(x_17 + 1, w18), ⟨hA83, rfl, ht80.1⟩, ht80.2⟩
  · have ht58 := ht53.2 (of_decide_eq_false hc)
    clear hc
    refine wp_exit ?_
    refine then_exit ?_
    refine then_exit ?_
    refine block_hit ?_
    have hA84 := hA56.keep [] trivial
    refine then_normal ?_
    refine wp_seq ?_
    refine wp_region_lit ?_
    refine sq (opk_val hA84 rfl (r_assign rfl) fun a85 hA85 _ => ?_)
    refine sq_end ?_
    have hA86 := hA85.keep [(4, .bool false)] ⟨rfl, trivial⟩
    refine then_normal ?_
    refine wp_ret ?_
    exact res_all (vs := [.bool false]) rfl hA86 ⟨res_of_tmp hA86 rfl, trivial⟩ ht58

/-- The condition of topiary/stack.sorts. -/
def stack_sorts.vc (sort_1 : Int) (R : Value → World → Prop) (w : World) : Prop :=
(((sort_1 < 1) ∨ (9 ≤ sort_1)) →
∀ (w13 : World) (B_5 : Nat), New w B_5 w13 → Chg [] w w13 →
R (.string (Bs ([] : Str))) w13) ∧
(((¬ (sort_1 < 1)) ∧ (¬ (9 ≤ sort_1))) →
((0 : Int) ≤ sort_1 ∧ sort_1 < 9) ∧
∀ (w13 : World) (B_5 : Nat), New w B_5 w13 → Chg [] w w13 →
R (.string (Bs (([([] : Str), ([97, 114, 101, 97, 32, 98, 97, 115, 101, 32, 98, 114, 32, 99, 111, 108, 32, 101, 109, 98, 101, 100, 32, 104, 114, 32, 105, 109, 103, 32, 105, 110, 112, 117, 116, 32, 108, 105, 110, 107, 32, 109, 101, 116, 97, 32, 112, 97, 114, 97, 109, 32, 115, 111, 117, 114, 99, 101, 32, 116, 114, 97, 99, 107, 32, 119, 98, 114] : Str), ([97, 100, 100, 114, 101, 115, 115, 32, 97, 112, 112, 108, 101, 116, 32, 97, 114, 101, 97, 32, 97, 114, 116, 105, 99, 108, 101, 32, 97, 115, 105, 100, 101, 32, 98, 97, 115, 101, 32, 98, 108, 111, 99, 107, 113, 117, 111, 116, 101, 32, 98, 111, 100, 121, 32, 98, 114, 32, 98, 117, 116, 116, 111, 110, 32, 99, 97, 112, 116, 105, 111, 110, 32, 99, 101, 110, 116, 101, 114, 32, 99, 111, 108, 32, 99, 111, 108, 103, 114, 111, 117, 112, 32, 100, 100, 32, 100, 101, 116, 97, 105, 108, 115, 32, 100, 105, 114, 32, 100, 105, 118, 32, 100, 108, 32, 100, 116, 32, 101, 109, 98, 101, 100, 32, 102, 105, 101, 108, 100, 115, 101, 116, 32, 102, 105, 103, 99, 97, 112, 116, 105, 111, 110, 32, 102, 105, 103, 117, 114, 101, 32, 102, 111, 111, 116, 101, 114, 32, 102, 111, 114, 109, 32, 104, 49, 32, 104, 50, 32, 104, 51, 32, 104, 52, 32, 104, 53, 32, 104, 54, 32, 104, 101, 97, 100, 32, 104, 101, 97, 100, 101, 114, 32, 104, 103, 114, 111, 117, 112, 32, 104, 114, 32, 104, 116, 109, 108, 32, 105, 102, 114, 97, 109, 101, 32, 105, 109, 103, 32, 105, 110, 112, 117, 116, 32, 108, 105, 32, 108, 105, 110, 107, 32, 109, 97, 105, 110, 32, 109, 97, 114, 113, 117, 101, 101, 32, 109, 101, 110, 117, 32, 109, 101, 116, 97, 32, 110, 97, 118, 32, 110, 111, 101, 109, 98, 101, 100, 32, 110, 111, 102, 114, 97, 109, 101, 115, 32, 111, 98, 106, 101, 99, 116, 32, 111, 108, 32, 112, 32, 112, 97, 114, 97, 109, 32, 112, 114, 101, 32, 115, 99, 114, 105, 112, 116, 32, 115, 101, 97, 114, 99, 104, 32, 115, 101, 99, 116, 105, 111, 110, 32, 115, 101, 108, 101, 99, 116, 32, 115, 111, 117, 114, 99, 101, 32, 115, 116, 121, 108, 101, 32, 115, 117, 109, 109, 97, 114, 121, 32, 116, 97, 98, 108, 101, 32, 116, 98, 111, 100, 121, 32, 116, 100, 32, 116, 101, 120, 116, 97, 114, 101, 97, 32, 116, 102, 111, 111, 116, 32, 116, 104, 32, 116, 104, 101, 97, 100, 32, 116, 105, 116, 108, 101, 32, 116, 114, 32, 116, 114, 97, 99, 107, 32, 117, 108, 32, 119, 98, 114, 32, 120, 109, 112] : Str), ([97, 32, 98, 32, 98, 105, 103, 32, 99, 111, 100, 101, 32, 101, 109, 32, 102, 111, 110, 116, 32, 105, 32, 110, 111, 98, 114, 32, 115, 32, 115, 109, 97, 108, 108, 32, 115, 116, 114, 105, 107, 101, 32, 115, 116, 114, 111, 110, 103, 32, 116, 116, 32, 117] : Str), ([100, 100, 32, 100, 116, 32, 108, 105, 32, 111, 112, 116, 105, 111, 110, 32, 112, 32, 114, 112, 32, 114, 116] : Str), ([104, 49, 32, 104, 50, 32, 104, 51, 32, 104, 52, 32, 104, 53, 32, 104, 54] : Str), ([97, 100, 100, 114, 101, 115, 115, 32, 97, 114, 116, 105, 99, 108, 101, 32, 97, 115, 105, 100, 101, 32, 98, 108, 111, 99, 107, 113, 117, 111, 116, 101, 32, 99, 101, 110, 116, 101, 114, 32, 100, 101, 116, 97, 105, 108, 115, 32, 100, 105, 114, 32, 100, 105, 118, 32, 100, 108, 32, 102, 105, 101, 108, 100, 115, 101, 116, 32, 102, 105, 103, 99, 97, 112, 116, 105, 111, 110, 32, 102, 105, 103, 117, 114, 101, 32, 102, 111, 111, 116, 101, 114, 32, 102, 111, 114, 109, 32, 104, 101, 97, 100, 101, 114, 32, 104, 103, 114, 111, 117, 112, 32, 109, 97, 105, 110, 32, 109, 101, 110, 117, 32, 110, 97, 118, 32, 111, 108, 32, 112, 114, 101, 32, 115, 101, 97, 114, 99, 104, 32, 115, 101, 99, 116, 105, 111, 110, 32, 115, 117, 109, 109, 97, 114, 121, 32, 117, 108] : Str), ([97, 112, 112, 108, 101, 116, 32, 109, 97, 114, 113, 117, 101, 101, 32, 111, 98, 106, 101, 99, 116] : Str), ([98, 97, 115, 101, 32, 108, 105, 110, 107, 32, 109, 101, 116, 97, 32, 116, 105, 116, 108, 101, 32, 115, 116, 121, 108, 101, 32, 115, 99, 114, 105, 112, 116, 32, 110, 111, 102, 114, 97, 109, 101, 115] : Str)] : List Str).getD sort_1.toNat []))) w13)
set_option maxHeartbeats 1000000 in
set_option maxRecDepth 10000 in
theorem stack_sorts.ok (sort_1 : Int) {R : Value → World → Prop} {w : World} (ht0 : stack_sorts.vc sort_1 R w) : Calls Tryd.prog 21 #[.int .i64 sort_1] w (Ret R) := by
  refine enter [.int .i64 sort_1] Tryd.func21 rfl Tryd.ntmps21 rfl ?_
  intro a0 hA0
  unfold stack_sorts.vc at ht0
  refine wp_seq ?_
  refine wp_region_lit ?_
  refine sq (opk_val hA0 rfl (r_assign rfl) fun a2 hA2 _ => ?_)
  refine sq_end ?_
  have hA3 := hA2.keep [(0, .int .i64 sort_1)] ⟨rfl, trivial⟩
  refine then_normal ?_
  refine wp_seq ?_
  refine wp_region_lit ?_
  refine sq (opk_val hA3 rfl (r_buildA (vs := #[(1, .string (Bs ([97, 114, 101, 97, 32, 98, 97, 115, 101, 32, 98, 114, 32, 99, 111, 108, 32, 101, 109, 98, 101, 100, 32, 104, 114, 32, 105, 109, 103, 32, 105, 110, 112, 117, 116, 32, 108, 105, 110, 107, 32, 109, 101, 116, 97, 32, 112, 97, 114, 97, 109, 32, 115, 111, 117, 114, 99, 101, 32, 116, 114, 97, 99, 107, 32, 119, 98, 114] : Str))), (2, .string (Bs ([97, 100, 100, 114, 101, 115, 115, 32, 97, 112, 112, 108, 101, 116, 32, 97, 114, 101, 97, 32, 97, 114, 116, 105, 99, 108, 101, 32, 97, 115, 105, 100, 101, 32, 98, 97, 115, 101, 32, 98, 108, 111, 99, 107, 113, 117, 111, 116, 101, 32, 98, 111, 100, 121, 32, 98, 114, 32, 98, 117, 116, 116, 111, 110, 32, 99, 97, 112, 116, 105, 111, 110, 32, 99, 101, 110, 116, 101, 114, 32, 99, 111, 108, 32, 99, 111, 108, 103, 114, 111, 117, 112, 32, 100, 100, 32, 100, 101, 116, 97, 105, 108, 115, 32, 100, 105, 114, 32, 100, 105, 118, 32, 100, 108, 32, 100, 116, 32, 101, 109, 98, 101, 100, 32, 102, 105, 101, 108, 100, 115, 101, 116, 32, 102, 105, 103, 99, 97, 112, 116, 105, 111, 110, 32, 102, 105, 103, 117, 114, 101, 32, 102, 111, 111, 116, 101, 114, 32, 102, 111, 114, 109, 32, 104, 49, 32, 104, 50, 32, 104, 51, 32, 104, 52, 32, 104, 53, 32, 104, 54, 32, 104, 101, 97, 100, 32, 104, 101, 97, 100, 101, 114, 32, 104, 103, 114, 111, 117, 112, 32, 104, 114, 32, 104, 116, 109, 108, 32, 105, 102, 114, 97, 109, 101, 32, 105, 109, 103, 32, 105, 110, 112, 117, 116, 32, 108, 105, 32, 108, 105, 110, 107, 32, 109, 97, 105, 110, 32, 109, 97, 114, 113, 117, 101, 101, 32, 109, 101, 110, 117, 32, 109, 101, 116, 97, 32, 110, 97, 118, 32, 110, 111, 101, 109, 98, 101, 100, 32, 110, 111, 102, 114, 97, 109, 101, 115, 32, 111, 98, 106, 101, 99, 116, 32, 111, 108, 32, 112, 32, 112, 97, 114, 97, 109, 32, 112, 114, 101, 32, 115, 99, 114, 105, 112, 116, 32, 115, 101, 97, 114, 99, 104, 32, 115, 101, 99, 116, 105, 111, 110, 32, 115, 101, 108, 101, 99, 116, 32, 115, 111, 117, 114, 99, 101, 32, 115, 116, 121, 108, 101, 32, 115, 117, 109, 109, 97, 114, 121, 32, 116, 97, 98, 108, 101, 32, 116, 98, 111, 100, 121, 32, 116, 100, 32, 116, 101, 120, 116, 97, 114, 101, 97, 32, 116, 102, 111, 111, 116, 32, 116, 104, 32, 116, 104, 101, 97, 100, 32, 116, 105, 116, 108, 101, 32, 116, 114, 32, 116, 114, 97, 99, 107, 32, 117, 108, 32, 119, 98, 114, 32, 120, 109, 112] : Str))), (3, .string (Bs ([97, 32, 98, 32, 98, 105, 103, 32, 99, 111, 100, 101, 32, 101, 109, 32, 102, 111, 110, 116, 32, 105, 32, 110, 111, 98, 114, 32, 115, 32, 115, 109, 97, 108, 108, 32, 115, 116, 114, 105, 107, 101, 32, 115, 116, 114, 111, 110, 103, 32, 116, 116, 32, 117] : Str))), (4, .string (Bs ([100, 100, 32, 100, 116, 32, 108, 105, 32, 111, 112, 116, 105, 111, 110, 32, 112, 32, 114, 112, 32, 114, 116] : Str))), (5, .string (Bs ([104, 49, 32, 104, 50, 32, 104, 51, 32, 104, 52, 32, 104, 53, 32, 104, 54] : Str))), (6, .string (Bs ([97, 100, 100, 114, 101, 115, 115, 32, 97, 114, 116, 105, 99, 108, 101, 32, 97, 115, 105, 100, 101, 32, 98, 108, 111, 99, 107, 113, 117, 111, 116, 101, 32, 99, 101, 110, 116, 101, 114, 32, 100, 101, 116, 97, 105, 108, 115, 32, 100, 105, 114, 32, 100, 105, 118, 32, 100, 108, 32, 102, 105, 101, 108, 100, 115, 101, 116, 32, 102, 105, 103, 99, 97, 112, 116, 105, 111, 110, 32, 102, 105, 103, 117, 114, 101, 32, 102, 111, 111, 116, 101, 114, 32, 102, 111, 114, 109, 32, 104, 101, 97, 100, 101, 114, 32, 104, 103, 114, 111, 117, 112, 32, 109, 97, 105, 110, 32, 109, 101, 110, 117, 32, 110, 97, 118, 32, 111, 108, 32, 112, 114, 101, 32, 115, 101, 97, 114, 99, 104, 32, 115, 101, 99, 116, 105, 111, 110, 32, 115, 117, 109, 109, 97, 114, 121, 32, 117, 108] : Str))), (7, .string (Bs ([97, 112, 112, 108, 101, 116, 32, 109, 97, 114, 113, 117, 101, 101, 32, 111, 98, 106, 101, 99, 116] : Str))), (8, .string (Bs ([98, 97, 115, 101, 32, 108, 105, 110, 107, 32, 109, 101, 116, 97, 32, 116, 105, 116, 108, 101, 32, 115, 116, 121, 108, 101, 32, 115, 99, 114, 105, 112, 116, 32, 110, 111, 102, 114, 97, 109, 101, 115] : Str)))]) (cells := #[.string (Bs ([] : Str)), .string (Bs ([97, 114, 101, 97, 32, 98, 97, 115, 101, 32, 98, 114, 32, 99, 111, 108, 32, 101, 109, 98, 101, 100, 32, 104, 114, 32, 105, 109, 103, 32, 105, 110, 112, 117, 116, 32, 108, 105, 110, 107, 32, 109, 101, 116, 97, 32, 112, 97, 114, 97, 109, 32, 115, 111, 117, 114, 99, 101, 32, 116, 114, 97, 99, 107, 32, 119, 98, 114] : Str)), .string (Bs ([97, 100, 100, 114, 101, 115, 115, 32, 97, 112, 112, 108, 101, 116, 32, 97, 114, 101, 97, 32, 97, 114, 116, 105, 99, 108, 101, 32, 97, 115, 105, 100, 101, 32, 98, 97, 115, 101, 32, 98, 108, 111, 99, 107, 113, 117, 111, 116, 101, 32, 98, 111, 100, 121, 32, 98, 114, 32, 98, 117, 116, 116, 111, 110, 32, 99, 97, 112, 116, 105, 111, 110, 32, 99, 101, 110, 116, 101, 114, 32, 99, 111, 108, 32, 99, 111, 108, 103, 114, 111, 117, 112, 32, 100, 100, 32, 100, 101, 116, 97, 105, 108, 115, 32, 100, 105, 114, 32, 100, 105, 118, 32, 100, 108, 32, 100, 116, 32, 101, 109, 98, 101, 100, 32, 102, 105, 101, 108, 100, 115, 101, 116, 32, 102, 105, 103, 99, 97, 112, 116, 105, 111, 110, 32, 102, 105, 103, 117, 114, 101, 32, 102, 111, 111, 116, 101, 114, 32, 102, 111, 114, 109, 32, 104, 49, 32, 104, 50, 32, 104, 51, 32, 104, 52, 32, 104, 53, 32, 104, 54, 32, 104, 101, 97, 100, 32, 104, 101, 97, 100, 101, 114, 32, 104, 103, 114, 111, 117, 112, 32, 104, 114, 32, 104, 116, 109, 108, 32, 105, 102, 114, 97, 109, 101, 32, 105, 109, 103, 32, 105, 110, 112, 117, 116, 32, 108, 105, 32, 108, 105, 110, 107, 32, 109, 97, 105, 110, 32, 109, 97, 114, 113, 117, 101, 101, 32, 109, 101, 110, 117, 32, 109, 101, 116, 97, 32, 110, 97, 118, 32, 110, 111, 101, 109, 98, 101, 100, 32, 110, 111, 102, 114, 97, 109, 101, 115, 32, 111, 98, 106, 101, 99, 116, 32, 111, 108, 32, 112, 32, 112, 97, 114, 97, 109, 32, 112, 114, 101, 32, 115, 99, 114, 105, 112, 116, 32, 115, 101, 97, 114, 99, 104, 32, 115, 101, 99, 116, 105, 111, 110, 32, 115, 101, 108, 101, 99, 116, 32, 115, 111, 117, 114, 99, 101, 32, 115, 116, 121, 108, 101, 32, 115, 117, 109, 109, 97, 114, 121, 32, 116, 97, 98, 108, 101, 32, 116, 98, 111, 100, 121, 32, 116, 100, 32, 116, 101, 120, 116, 97, 114, 101, 97, 32, 116, 102, 111, 111, 116, 32, 116, 104, 32, 116, 104, 101, 97, 100, 32, 116, 105, 116, 108, 101, 32, 116, 114, 32, 116, 114, 97, 99, 107, 32, 117, 108, 32, 119, 98, 114, 32, 120, 109, 112] : Str)), .string (Bs ([97, 32, 98, 32, 98, 105, 103, 32, 99, 111, 100, 101, 32, 101, 109, 32, 102, 111, 110, 116, 32, 105, 32, 110, 111, 98, 114, 32, 115, 32, 115, 109, 97, 108, 108, 32, 115, 116, 114, 105, 107, 101, 32, 115, 116, 114, 111, 110, 103, 32, 116, 116, 32, 117] : Str)), .string (Bs ([100, 100, 32, 100, 116, 32, 108, 105, 32, 111, 112, 116, 105, 111, 110, 32, 112, 32, 114, 112, 32, 114, 116] : Str)), .string (Bs ([104, 49, 32, 104, 50, 32, 104, 51, 32, 104, 52, 32, 104, 53, 32, 104, 54] : Str)), .string (Bs ([97, 100, 100, 114, 101, 115, 115, 32, 97, 114, 116, 105, 99, 108, 101, 32, 97, 115, 105, 100, 101, 32, 98, 108, 111, 99, 107, 113, 117, 111, 116, 101, 32, 99, 101, 110, 116, 101, 114, 32, 100, 101, 116, 97, 105, 108, 115, 32, 100, 105, 114, 32, 100, 105, 118, 32, 100, 108, 32, 102, 105, 101, 108, 100, 115, 101, 116, 32, 102, 105, 103, 99, 97, 112, 116, 105, 111, 110, 32, 102, 105, 103, 117, 114, 101, 32, 102, 111, 111, 116, 101, 114, 32, 102, 111, 114, 109, 32, 104, 101, 97, 100, 101, 114, 32, 104, 103, 114, 111, 117, 112, 32, 109, 97, 105, 110, 32, 109, 101, 110, 117, 32, 110, 97, 118, 32, 111, 108, 32, 112, 114, 101, 32, 115, 101, 97, 114, 99, 104, 32, 115, 101, 99, 116, 105, 111, 110, 32, 115, 117, 109, 109, 97, 114, 121, 32, 117, 108] : Str)), .string (Bs ([97, 112, 112, 108, 101, 116, 32, 109, 97, 114, 113, 117, 101, 101, 32, 111, 98, 106, 101, 99, 116] : Str)), .string (Bs ([98, 97, 115, 101, 32, 108, 105, 110, 107, 32, 109, 101, 116, 97, 32, 116, 105, 116, 108, 101, 32, 115, 116, 121, 108, 101, 32, 115, 99, 114, 105, 112, 116, 32, 110, 111, 102, 114, 97, 109, 101, 115] : Str))]) (map_arr2 (ml2_cons rfl (ml2_cons rfl (ml2_cons rfl (ml2_cons rfl (ml2_cons rfl (ml2_cons rfl (ml2_cons rfl (ml2_cons rfl (ml2_nil)))))))))) ti_43 Tryd.underlying43 ti_9 (by kernel_rfl)) fun a4 hA4 _ => ?_)
  refine sq (opk_new (fun B => .pointer (some ⟨B, 0, none⟩)) hA4 rfl (r_alloc (cs := [.string (Bs ([] : Str)), .string (Bs ([] : Str)), .string (Bs ([] : Str)), .string (Bs ([] : Str)), .string (Bs ([] : Str)), .string (Bs ([] : Str)), .string (Bs ([] : Str)), .string (Bs ([] : Str)), .string (Bs ([] : Str))]) ti_43 rfl) fun a7 w6 B_5 hE8 hN9 hB10 hA7 _ => ?_)
  have hN11 : New w B_5 w6 := hN9
  have hC12 : Chg [] w w6 := hE8
  refine sq (opk_store hA7 hB10 (r_store (vs := [.string (Bs ([] : Str)), .string (Bs ([97, 114, 101, 97, 32, 98, 97, 115, 101, 32, 98, 114, 32, 99, 111, 108, 32, 101, 109, 98, 101, 100, 32, 104, 114, 32, 105, 109, 103, 32, 105, 110, 112, 117, 116, 32, 108, 105, 110, 107, 32, 109, 101, 116, 97, 32, 112, 97, 114, 97, 109, 32, 115, 111, 117, 114, 99, 101, 32, 116, 114, 97, 99, 107, 32, 119, 98, 114] : Str)), .string (Bs ([97, 100, 100, 114, 101, 115, 115, 32, 97, 112, 112, 108, 101, 116, 32, 97, 114, 101, 97, 32, 97, 114, 116, 105, 99, 108, 101, 32, 97, 115, 105, 100, 101, 32, 98, 97, 115, 101, 32, 98, 108, 111, 99, 107, 113, 117, 111, 116, 101, 32, 98, 111, 100, 121, 32, 98, 114, 32, 98, 117, 116, 116, 111, 110, 32, 99, 97, 112, 116, 105, 111, 110, 32, 99, 101, 110, 116, 101, 114, 32, 99, 111, 108, 32, 99, 111, 108, 103, 114, 111, 117, 112, 32, 100, 100, 32, 100, 101, 116, 97, 105, 108, 115, 32, 100, 105, 114, 32, 100, 105, 118, 32, 100, 108, 32, 100, 116, 32, 101, 109, 98, 101, 100, 32, 102, 105, 101, 108, 100, 115, 101, 116, 32, 102, 105, 103, 99, 97, 112, 116, 105, 111, 110, 32, 102, 105, 103, 117, 114, 101, 32, 102, 111, 111, 116, 101, 114, 32, 102, 111, 114, 109, 32, 104, 49, 32, 104, 50, 32, 104, 51, 32, 104, 52, 32, 104, 53, 32, 104, 54, 32, 104, 101, 97, 100, 32, 104, 101, 97, 100, 101, 114, 32, 104, 103, 114, 111, 117, 112, 32, 104, 114, 32, 104, 116, 109, 108, 32, 105, 102, 114, 97, 109, 101, 32, 105, 109, 103, 32, 105, 110, 112, 117, 116, 32, 108, 105, 32, 108, 105, 110, 107, 32, 109, 97, 105, 110, 32, 109, 97, 114, 113, 117, 101, 101, 32, 109, 101, 110, 117, 32, 109, 101, 116, 97, 32, 110, 97, 118, 32, 110, 111, 101, 109, 98, 101, 100, 32, 110, 111, 102, 114, 97, 109, 101, 115, 32, 111, 98, 106, 101, 99, 116, 32, 111, 108, 32, 112, 32, 112, 97, 114, 97, 109, 32, 112, 114, 101, 32, 115, 99, 114, 105, 112, 116, 32, 115, 101, 97, 114, 99, 104, 32, 115, 101, 99, 116, 105, 111, 110, 32, 115, 101, 108, 101, 99, 116, 32, 115, 111, 117, 114, 99, 101, 32, 115, 116, 121, 108, 101, 32, 115, 117, 109, 109, 97, 114, 121, 32, 116, 97, 98, 108, 101, 32, 116, 98, 111, 100, 121, 32, 116, 100, 32, 116, 101, 120, 116, 97, 114, 101, 97, 32, 116, 102, 111, 111, 116, 32, 116, 104, 32, 116, 104, 101, 97, 100, 32, 116, 105, 116, 108, 101, 32, 116, 114, 32, 116, 114, 97, 99, 107, 32, 117, 108, 32, 119, 98, 114, 32, 120, 109, 112] : Str)), .string (Bs ([97, 32, 98, 32, 98, 105, 103, 32, 99, 111, 100, 101, 32, 101, 109, 32, 102, 111, 110, 116, 32, 105, 32, 110, 111, 98, 114, 32, 115, 32, 115, 109, 97, 108, 108, 32, 115, 116, 114, 105, 107, 101, 32, 115, 116, 114, 111, 110, 103, 32, 116, 116, 32, 117] : Str)), .string (Bs ([100, 100, 32, 100, 116, 32, 108, 105, 32, 111, 112, 116, 105, 111, 110, 32, 112, 32, 114, 112, 32, 114, 116] : Str)), .string (Bs ([104, 49, 32, 104, 50, 32, 104, 51, 32, 104, 52, 32, 104, 53, 32, 104, 54] : Str)), .string (Bs ([97, 100, 100, 114, 101, 115, 115, 32, 97, 114, 116, 105, 99, 108, 101, 32, 97, 115, 105, 100, 101, 32, 98, 108, 111, 99, 107, 113, 117, 111, 116, 101, 32, 99, 101, 110, 116, 101, 114, 32, 100, 101, 116, 97, 105, 108, 115, 32, 100, 105, 114, 32, 100, 105, 118, 32, 100, 108, 32, 102, 105, 101, 108, 100, 115, 101, 116, 32, 102, 105, 103, 99, 97, 112, 116, 105, 111, 110, 32, 102, 105, 103, 117, 114, 101, 32, 102, 111, 111, 116, 101, 114, 32, 102, 111, 114, 109, 32, 104, 101, 97, 100, 101, 114, 32, 104, 103, 114, 111, 117, 112, 32, 109, 97, 105, 110, 32, 109, 101, 110, 117, 32, 110, 97, 118, 32, 111, 108, 32, 112, 114, 101, 32, 115, 101, 97, 114, 99, 104, 32, 115, 101, 99, 116, 105, 111, 110, 32, 115, 117, 109, 109, 97, 114, 121, 32, 117, 108] : Str)), .string (Bs ([97, 112, 112, 108, 101, 116, 32, 109, 97, 114, 113, 117, 101, 101, 32, 111, 98, 106, 101, 99, 116] : Str)), .string (Bs ([98, 97, 115, 101, 32, 108, 105, 110, 107, 32, 109, 101, 116, 97, 32, 116, 105, 116, 108, 101, 32, 115, 116, 121, 108, 101, 32, 115, 99, 114, 105, 112, 116, 32, 110, 111, 102, 114, 97, 109, 101, 115] : Str))]) (hA7.get rfl) (hA7.get rfl) rfl ti_43 hB10 rfl (ones_all [.string (Bs ([] : Str)), .string (Bs ([97, 114, 101, 97, 32, 98, 97, 115, 101, 32, 98, 114, 32, 99, 111, 108, 32, 101, 109, 98, 101, 100, 32, 104, 114, 32, 105, 109, 103, 32, 105, 110, 112, 117, 116, 32, 108, 105, 110, 107, 32, 109, 101, 116, 97, 32, 112, 97, 114, 97, 109, 32, 115, 111, 117, 114, 99, 101, 32, 116, 114, 97, 99, 107, 32, 119, 98, 114] : Str)), .string (Bs ([97, 100, 100, 114, 101, 115, 115, 32, 97, 112, 112, 108, 101, 116, 32, 97, 114, 101, 97, 32, 97, 114, 116, 105, 99, 108, 101, 32, 97, 115, 105, 100, 101, 32, 98, 97, 115, 101, 32, 98, 108, 111, 99, 107, 113, 117, 111, 116, 101, 32, 98, 111, 100, 121, 32, 98, 114, 32, 98, 117, 116, 116, 111, 110, 32, 99, 97, 112, 116, 105, 111, 110, 32, 99, 101, 110, 116, 101, 114, 32, 99, 111, 108, 32, 99, 111, 108, 103, 114, 111, 117, 112, 32, 100, 100, 32, 100, 101, 116, 97, 105, 108, 115, 32, 100, 105, 114, 32, 100, 105, 118, 32, 100, 108, 32, 100, 116, 32, 101, 109, 98, 101, 100, 32, 102, 105, 101, 108, 100, 115, 101, 116, 32, 102, 105, 103, 99, 97, 112, 116, 105, 111, 110, 32, 102, 105, 103, 117, 114, 101, 32, 102, 111, 111, 116, 101, 114, 32, 102, 111, 114, 109, 32, 104, 49, 32, 104, 50, 32, 104, 51, 32, 104, 52, 32, 104, 53, 32, 104, 54, 32, 104, 101, 97, 100, 32, 104, 101, 97, 100, 101, 114, 32, 104, 103, 114, 111, 117, 112, 32, 104, 114, 32, 104, 116, 109, 108, 32, 105, 102, 114, 97, 109, 101, 32, 105, 109, 103, 32, 105, 110, 112, 117, 116, 32, 108, 105, 32, 108, 105, 110, 107, 32, 109, 97, 105, 110, 32, 109, 97, 114, 113, 117, 101, 101, 32, 109, 101, 110, 117, 32, 109, 101, 116, 97, 32, 110, 97, 118, 32, 110, 111, 101, 109, 98, 101, 100, 32, 110, 111, 102, 114, 97, 109, 101, 115, 32, 111, 98, 106, 101, 99, 116, 32, 111, 108, 32, 112, 32, 112, 97, 114, 97, 109, 32, 112, 114, 101, 32, 115, 99, 114, 105, 112, 116, 32, 115, 101, 97, 114, 99, 104, 32, 115, 101, 99, 116, 105, 111, 110, 32, 115, 101, 108, 101, 99, 116, 32, 115, 111, 117, 114, 99, 101, 32, 115, 116, 121, 108, 101, 32, 115, 117, 109, 109, 97, 114, 121, 32, 116, 97, 98, 108, 101, 32, 116, 98, 111, 100, 121, 32, 116, 100, 32, 116, 101, 120, 116, 97, 114, 101, 97, 32, 116, 102, 111, 111, 116, 32, 116, 104, 32, 116, 104, 101, 97, 100, 32, 116, 105, 116, 108, 101, 32, 116, 114, 32, 116, 114, 97, 99, 107, 32, 117, 108, 32, 119, 98, 114, 32, 120, 109, 112] : Str)), .string (Bs ([97, 32, 98, 32, 98, 105, 103, 32, 99, 111, 100, 101, 32, 101, 109, 32, 102, 111, 110, 116, 32, 105, 32, 110, 111, 98, 114, 32, 115, 32, 115, 109, 97, 108, 108, 32, 115, 116, 114, 105, 107, 101, 32, 115, 116, 114, 111, 110, 103, 32, 116, 116, 32, 117] : Str)), .string (Bs ([100, 100, 32, 100, 116, 32, 108, 105, 32, 111, 112, 116, 105, 111, 110, 32, 112, 32, 114, 112, 32, 114, 116] : Str)), .string (Bs ([104, 49, 32, 104, 50, 32, 104, 51, 32, 104, 52, 32, 104, 53, 32, 104, 54] : Str)), .string (Bs ([97, 100, 100, 114, 101, 115, 115, 32, 97, 114, 116, 105, 99, 108, 101, 32, 97, 115, 105, 100, 101, 32, 98, 108, 111, 99, 107, 113, 117, 111, 116, 101, 32, 99, 101, 110, 116, 101, 114, 32, 100, 101, 116, 97, 105, 108, 115, 32, 100, 105, 114, 32, 100, 105, 118, 32, 100, 108, 32, 102, 105, 101, 108, 100, 115, 101, 116, 32, 102, 105, 103, 99, 97, 112, 116, 105, 111, 110, 32, 102, 105, 103, 117, 114, 101, 32, 102, 111, 111, 116, 101, 114, 32, 102, 111, 114, 109, 32, 104, 101, 97, 100, 101, 114, 32, 104, 103, 114, 111, 117, 112, 32, 109, 97, 105, 110, 32, 109, 101, 110, 117, 32, 110, 97, 118, 32, 111, 108, 32, 112, 114, 101, 32, 115, 101, 97, 114, 99, 104, 32, 115, 101, 99, 116, 105, 111, 110, 32, 115, 117, 109, 109, 97, 114, 121, 32, 117, 108] : Str)), .string (Bs ([97, 112, 112, 108, 101, 116, 32, 109, 97, 114, 113, 117, 101, 101, 32, 111, 98, 106, 101, 99, 116] : Str)), .string (Bs ([98, 97, 115, 101, 32, 108, 105, 110, 107, 32, 109, 101, 116, 97, 32, 116, 105, 116, 108, 101, 32, 115, 116, 121, 108, 101, 32, 115, 99, 114, 105, 112, 116, 32, 110, 111, 102, 114, 97, 109, 101, 115] : Str))] rfl)) fun a14 w13 hS15 hB16 hA14 => ?_)
  have hB17 : Box w13 B_5 43 [.string (Bs ([] : Str)), .string (Bs ([97, 114, 101, 97, 32, 98, 97, 115, 101, 32, 98, 114, 32, 99, 111, 108, 32, 101, 109, 98, 101, 100, 32, 104, 114, 32, 105, 109, 103, 32, 105, 110, 112, 117, 116, 32, 108, 105, 110, 107, 32, 109, 101, 116, 97, 32, 112, 97, 114, 97, 109, 32, 115, 111, 117, 114, 99, 101, 32, 116, 114, 97, 99, 107, 32, 119, 98, 114] : Str)), .string (Bs ([97, 100, 100, 114, 101, 115, 115, 32, 97, 112, 112, 108, 101, 116, 32, 97, 114, 101, 97, 32, 97, 114, 116, 105, 99, 108, 101, 32, 97, 115, 105, 100, 101, 32, 98, 97, 115, 101, 32, 98, 108, 111, 99, 107, 113, 117, 111, 116, 101, 32, 98, 111, 100, 121, 32, 98, 114, 32, 98, 117, 116, 116, 111, 110, 32, 99, 97, 112, 116, 105, 111, 110, 32, 99, 101, 110, 116, 101, 114, 32, 99, 111, 108, 32, 99, 111, 108, 103, 114, 111, 117, 112, 32, 100, 100, 32, 100, 101, 116, 97, 105, 108, 115, 32, 100, 105, 114, 32, 100, 105, 118, 32, 100, 108, 32, 100, 116, 32, 101, 109, 98, 101, 100, 32, 102, 105, 101, 108, 100, 115, 101, 116, 32, 102, 105, 103, 99, 97, 112, 116, 105, 111, 110, 32, 102, 105, 103, 117, 114, 101, 32, 102, 111, 111, 116, 101, 114, 32, 102, 111, 114, 109, 32, 104, 49, 32, 104, 50, 32, 104, 51, 32, 104, 52, 32, 104, 53, 32, 104, 54, 32, 104, 101, 97, 100, 32, 104, 101, 97, 100, 101, 114, 32, 104, 103, 114, 111, 117, 112, 32, 104, 114, 32, 104, 116, 109, 108, 32, 105, 102, 114, 97, 109, 101, 32, 105, 109, 103, 32, 105, 110, 112, 117, 116, 32, 108, 105, 32, 108, 105, 110, 107, 32, 109, 97, 105, 110, 32, 109, 97, 114, 113, 117, 101, 101, 32, 109, 101, 110, 117, 32, 109, 101, 116, 97, 32, 110, 97, 118, 32, 110, 111, 101, 109, 98, 101, 100, 32, 110, 111, 102, 114, 97, 109, 101, 115, 32, 111, 98, 106, 101, 99, 116, 32, 111, 108, 32, 112, 32, 112, 97, 114, 97, 109, 32, 112, 114, 101, 32, 115, 99, 114, 105, 112, 116, 32, 115, 101, 97, 114, 99, 104, 32, 115, 101, 99, 116, 105, 111, 110, 32, 115, 101, 108, 101, 99, 116, 32, 115, 111, 117, 114, 99, 101, 32, 115, 116, 121, 108, 101, 32, 115, 117, 109, 109, 97, 114, 121, 32, 116, 97, 98, 108, 101, 32, 116, 98, 111, 100, 121, 32, 116, 100, 32, 116, 101, 120, 116, 97, 114, 101, 97, 32, 116, 102, 111, 111, 116, 32, 116, 104, 32, 116, 104, 101, 97, 100, 32, 116, 105, 116, 108, 101, 32, 116, 114, 32, 116, 114, 97, 99, 107, 32, 117, 108, 32, 119, 98, 114, 32, 120, 109, 112] : Str)), .string (Bs ([97, 32, 98, 32, 98, 105, 103, 32, 99, 111, 100, 101, 32, 101, 109, 32, 102, 111, 110, 116, 32, 105, 32, 110, 111, 98, 114, 32, 115, 32, 115, 109, 97, 108, 108, 32, 115, 116, 114, 105, 107, 101, 32, 115, 116, 114, 111, 110, 103, 32, 116, 116, 32, 117] : Str)), .string (Bs ([100, 100, 32, 100, 116, 32, 108, 105, 32, 111, 112, 116, 105, 111, 110, 32, 112, 32, 114, 112, 32, 114, 116] : Str)), .string (Bs ([104, 49, 32, 104, 50, 32, 104, 51, 32, 104, 52, 32, 104, 53, 32, 104, 54] : Str)), .string (Bs ([97, 100, 100, 114, 101, 115, 115, 32, 97, 114, 116, 105, 99, 108, 101, 32, 97, 115, 105, 100, 101, 32, 98, 108, 111, 99, 107, 113, 117, 111, 116, 101, 32, 99, 101, 110, 116, 101, 114, 32, 100, 101, 116, 97, 105, 108, 115, 32, 100, 105, 114, 32, 100, 105, 118, 32, 100, 108, 32, 102, 105, 101, 108, 100, 115, 101, 116, 32, 102, 105, 103, 99, 97, 112, 116, 105, 111, 110, 32, 102, 105, 103, 117, 114, 101, 32, 102, 111, 111, 116, 101, 114, 32, 102, 111, 114, 109, 32, 104, 101, 97, 100, 101, 114, 32, 104, 103, 114, 111, 117, 112, 32, 109, 97, 105, 110, 32, 109, 101, 110, 117, 32, 110, 97, 118, 32, 111, 108, 32, 112, 114, 101, 32, 115, 101, 97, 114, 99, 104, 32, 115, 101, 99, 116, 105, 111, 110, 32, 115, 117, 109, 109, 97, 114, 121, 32, 117, 108] : Str)), .string (Bs ([97, 112, 112, 108, 101, 116, 32, 109, 97, 114, 113, 117, 101, 101, 32, 111, 98, 106, 101, 99, 116] : Str)), .string (Bs ([98, 97, 115, 101, 32, 108, 105, 110, 107, 32, 109, 101, 116, 97, 32, 116, 105, 116, 108, 101, 32, 115, 116, 121, 108, 101, 32, 115, 99, 114, 105, 112, 116, 32, 110, 111, 102, 114, 97, 109, 101, 115] : Str))] := hB16
  have hC18 := hC12.storeNew hN11 hS15
  have hN19 := hN11.up hS15.size
  refine sq_end ?_
  have hA20 := hA14.keep [(0, .int .i64 sort_1), (3, .pointer (some ⟨B_5, 0, none⟩))] ⟨rfl, rfl, trivial⟩
  refine then_normal ?_
  refine wp_seq ?_
  refine wp_seq ?_
  refine wp_region_lit ?_
  refine sq (opk_val hA20 rfl (r_move (hA20.get rfl)) fun a21 hA21 _ => ?_)
  refine sq (opk_val hA21 rfl (r_lss (hA21.get rfl) rfl) fun a22 hA22 _ => ?_)
  refine sq (opk_val hA22 rfl (r_move (hA22.get rfl)) fun a23 hA23 _ => ?_)
  refine sq (opk_gval hA23 rfl rfl (g := true) (e := (decide (sort_1 < 1))) rfl (fun hg => r_move (hA23.get rfl)) fun a24 hA24 _ => ?_)
  refine sq (opk_gval hA24 rfl rfl (g := true) (e := (decide (sort_1 < 1))) rfl (fun hg => r_geq (cv_get (hA24.get rfl) hg) rfl) fun a25 hA25 _ => ?_)
  refine sq (opk_val hA25 rfl (r_pick_or (g := (true && ((decide (sort_1 < 1)) == false))) (hA25.get rfl) (hA25.get rfl) (fun he => g_mkf rfl he)) fun a26 hA26 _ => ?_)
  refine sq_end ?_
  have hA27 := hA26.keep [(0, .int .i64 sort_1), (3, .pointer (some ⟨B_5, 0, none⟩)), (10, .bool ((decide (sort_1 < 1)) || (decide (9 ≤ sort_1))))] ⟨rfl, rfl, rfl, trivial⟩
  refine then_normal ?_
  refine wp_cond_split (hA27.get rfl) (fun hc => ?_) (fun hc => ?_)
  · have ht28 := ht0.1 ((b_or_t hc).imp (fun h => (of_decide_eq_true h)) (fun h => (of_decide_eq_true h)))
    clear hc
    refine wp_seq ?_
    refine wp_region_lit ?_
    refine sq (opk_val hA27 rfl (r_assign rfl) fun a30 hA30 _ => ?_)
    refine sq_end ?_
    have hA31 := hA30.keep [(2, .string (Bs ([] : Str)))] ⟨rfl, trivial⟩
    refine then_normal ?_
    refine wp_ret ?_
    refine then_ret ?_
    have ht32 := ht28 w13 B_5 hN19  hC18
    exact res_all (vs := [.string (Bs ([] : Str))]) rfl hA31 ⟨res_of_tmp hA31 rfl, trivial⟩ ht32
  · have ht29 := ht0.2 ⟨(of_decide_eq_false (b_or_f hc).1), (of_decide_eq_false (b_or_f hc).2)⟩
    clear hc
    refine wp_skip ?_
    refine then_normal ?_
    refine wp_seq ?_
    refine wp_region_lit ?_
    refine sq (opk_val hA27 rfl (r_move (hA27.get rfl)) fun a33 hA33 _ => ?_)
    obtain ⟨hS35, ht36⟩ := ht29
    refine sq (opk_val hA33 rfl (r_indexAddrA (hA33.get rfl) (hA33.get rfl) Tryd.underlying43 ti_9 hS35) fun a34 hA34 _ => ?_)
    refine sq (opk_val hA34 rfl (r_load1 Tryd.underlying9 rfl (hA34.get rfl) (Box.cellA ([([] : Str), ([97, 114, 101, 97, 32, 98, 97, 115, 101, 32, 98, 114, 32, 99, 111, 108, 32, 101, 109, 98, 101, 100, 32, 104, 114, 32, 105, 109, 103, 32, 105, 110, 112, 117, 116, 32, 108, 105, 110, 107, 32, 109, 101, 116, 97, 32, 112, 97, 114, 97, 109, 32, 115, 111, 117, 114, 99, 101, 32, 116, 114, 97, 99, 107, 32, 119, 98, 114] : Str), ([97, 100, 100, 114, 101, 115, 115, 32, 97, 112, 112, 108, 101, 116, 32, 97, 114, 101, 97, 32, 97, 114, 116, 105, 99, 108, 101, 32, 97, 115, 105, 100, 101, 32, 98, 97, 115, 101, 32, 98, 108, 111, 99, 107, 113, 117, 111, 116, 101, 32, 98, 111, 100, 121, 32, 98, 114, 32, 98, 117, 116, 116, 111, 110, 32, 99, 97, 112, 116, 105, 111, 110, 32, 99, 101, 110, 116, 101, 114, 32, 99, 111, 108, 32, 99, 111, 108, 103, 114, 111, 117, 112, 32, 100, 100, 32, 100, 101, 116, 97, 105, 108, 115, 32, 100, 105, 114, 32, 100, 105, 118, 32, 100, 108, 32, 100, 116, 32, 101, 109, 98, 101, 100, 32, 102, 105, 101, 108, 100, 115, 101, 116, 32, 102, 105, 103, 99, 97, 112, 116, 105, 111, 110, 32, 102, 105, 103, 117, 114, 101, 32, 102, 111, 111, 116, 101, 114, 32, 102, 111, 114, 109, 32, 104, 49, 32, 104, 50, 32, 104, 51, 32, 104, 52, 32, 104, 53, 32, 104, 54, 32, 104, 101, 97, 100, 32, 104, 101, 97, 100, 101, 114, 32, 104, 103, 114, 111, 117, 112, 32, 104, 114, 32, 104, 116, 109, 108, 32, 105, 102, 114, 97, 109, 101, 32, 105, 109, 103, 32, 105, 110, 112, 117, 116, 32, 108, 105, 32, 108, 105, 110, 107, 32, 109, 97, 105, 110, 32, 109, 97, 114, 113, 117, 101, 101, 32, 109, 101, 110, 117, 32, 109, 101, 116, 97, 32, 110, 97, 118, 32, 110, 111, 101, 109, 98, 101, 100, 32, 110, 111, 102, 114, 97, 109, 101, 115, 32, 111, 98, 106, 101, 99, 116, 32, 111, 108, 32, 112, 32, 112, 97, 114, 97, 109, 32, 112, 114, 101, 32, 115, 99, 114, 105, 112, 116, 32, 115, 101, 97, 114, 99, 104, 32, 115, 101, 99, 116, 105, 111, 110, 32, 115, 101, 108, 101, 99, 116, 32, 115, 111, 117, 114, 99, 101, 32, 115, 116, 121, 108, 101, 32, 115, 117, 109, 109, 97, 114, 121, 32, 116, 97, 98, 108, 101, 32, 116, 98, 111, 100, 121, 32, 116, 100, 32, 116, 101, 120, 116, 97, 114, 101, 97, 32, 116, 102, 111, 111, 116, 32, 116, 104, 32, 116, 104, 101, 97, 100, 32, 116, 105, 116, 108, 101, 32, 116, 114, 32, 116, 114, 97, 99, 107, 32, 117, 108, 32, 119, 98, 114, 32, 120, 109, 112] : Str), ([97, 32, 98, 32, 98, 105, 103, 32, 99, 111, 100, 101, 32, 101, 109, 32, 102, 111, 110, 116, 32, 105, 32, 110, 111, 98, 114, 32, 115, 32, 115, 109, 97, 108, 108, 32, 115, 116, 114, 105, 107, 101, 32, 115, 116, 114, 111, 110, 103, 32, 116, 116, 32, 117] : Str), ([100, 100, 32, 100, 116, 32, 108, 105, 32, 111, 112, 116, 105, 111, 110, 32, 112, 32, 114, 112, 32, 114, 116] : Str), ([104, 49, 32, 104, 50, 32, 104, 51, 32, 104, 52, 32, 104, 53, 32, 104, 54] : Str), ([97, 100, 100, 114, 101, 115, 115, 32, 97, 114, 116, 105, 99, 108, 101, 32, 97, 115, 105, 100, 101, 32, 98, 108, 111, 99, 107, 113, 117, 111, 116, 101, 32, 99, 101, 110, 116, 101, 114, 32, 100, 101, 116, 97, 105, 108, 115, 32, 100, 105, 114, 32, 100, 105, 118, 32, 100, 108, 32, 102, 105, 101, 108, 100, 115, 101, 116, 32, 102, 105, 103, 99, 97, 112, 116, 105, 111, 110, 32, 102, 105, 103, 117, 114, 101, 32, 102, 111, 111, 116, 101, 114, 32, 102, 111, 114, 109, 32, 104, 101, 97, 100, 101, 114, 32, 104, 103, 114, 111, 117, 112, 32, 109, 97, 105, 110, 32, 109, 101, 110, 117, 32, 110, 97, 118, 32, 111, 108, 32, 112, 114, 101, 32, 115, 101, 97, 114, 99, 104, 32, 115, 101, 99, 116, 105, 111, 110, 32, 115, 117, 109, 109, 97, 114, 121, 32, 117, 108] : Str), ([97, 112, 112, 108, 101, 116, 32, 109, 97, 114, 113, 117, 101, 101, 32, 111, 98, 106, 101, 99, 116] : Str), ([98, 97, 115, 101, 32, 108, 105, 110, 107, 32, 109, 101, 116, 97, 32, 116, 105, 116, 108, 101, 32, 115, 116, 121, 108, 101, 32, 115, 99, 114, 105, 112, 116, 32, 110, 111, 102, 114, 97, 109, 101, 115] : Str)] : List Str) (fun s => Value.string (Bs s)) [] hB17 rfl rfl hS35)) fun a37 hA37 _ => ?_)
    refine sq (opk_val hA37 rfl (r_assign (hA37.get rfl)) fun a38 hA38 _ => ?_)
    refine sq_end ?_
    have hA39 := hA38.keep [(2, .string (Bs (([([] : Str), ([97, 114, 101, 97, 32, 98, 97, 115, 101, 32, 98, 114, 32, 99, 111, 108, 32, 101, 109, 98, 101, 100, 32, 104, 114, 32, 105, 109, 103, 32, 105, 110, 112, 117, 116, 32, 108, 105, 110, 107, 32, 109, 101, 116, 97, 32, 112, 97, 114, 97, 109, 32, 115, 111, 117, 114, 99, 101, 32, 116, 114, 97, 99, 107, 32, 119, 98, 114] : Str), ([97, 100, 100, 114, 101, 115, 115, 32, 97, 112, 112, 108, 101, 116, 32, 97, 114, 101, 97, 32, 97, 114, 116, 105, 99, 108, 101, 32, 97, 115, 105, 100, 101, 32, 98, 97, 115, 101, 32, 98, 108, 111, 99, 107, 113, 117, 111, 116, 101, 32, 98, 111, 100, 121, 32, 98, 114, 32, 98, 117, 116, 116, 111, 110, 32, 99, 97, 112, 116, 105, 111, 110, 32, 99, 101, 110, 116, 101, 114, 32, 99, 111, 108, 32, 99, 111, 108, 103, 114, 111, 117, 112, 32, 100, 100, 32, 100, 101, 116, 97, 105, 108, 115, 32, 100, 105, 114, 32, 100, 105, 118, 32, 100, 108, 32, 100, 116, 32, 101, 109, 98, 101, 100, 32, 102, 105, 101, 108, 100, 115, 101, 116, 32, 102, 105, 103, 99, 97, 112, 116, 105, 111, 110, 32, 102, 105, 103, 117, 114, 101, 32, 102, 111, 111, 116, 101, 114, 32, 102, 111, 114, 109, 32, 104, 49, 32, 104, 50, 32, 104, 51, 32, 104, 52, 32, 104, 53, 32, 104, 54, 32, 104, 101, 97, 100, 32, 104, 101, 97, 100, 101, 114, 32, 104, 103, 114, 111, 117, 112, 32, 104, 114, 32, 104, 116, 109, 108, 32, 105, 102, 114, 97, 109, 101, 32, 105, 109, 103, 32, 105, 110, 112, 117, 116, 32, 108, 105, 32, 108, 105, 110, 107, 32, 109, 97, 105, 110, 32, 109, 97, 114, 113, 117, 101, 101, 32, 109, 101, 110, 117, 32, 109, 101, 116, 97, 32, 110, 97, 118, 32, 110, 111, 101, 109, 98, 101, 100, 32, 110, 111, 102, 114, 97, 109, 101, 115, 32, 111, 98, 106, 101, 99, 116, 32, 111, 108, 32, 112, 32, 112, 97, 114, 97, 109, 32, 112, 114, 101, 32, 115, 99, 114, 105, 112, 116, 32, 115, 101, 97, 114, 99, 104, 32, 115, 101, 99, 116, 105, 111, 110, 32, 115, 101, 108, 101, 99, 116, 32, 115, 111, 117, 114, 99, 101, 32, 115, 116, 121, 108, 101, 32, 115, 117, 109, 109, 97, 114, 121, 32, 116, 97, 98, 108, 101, 32, 116, 98, 111, 100, 121, 32, 116, 100, 32, 116, 101, 120, 116, 97, 114, 101, 97, 32, 116, 102, 111, 111, 116, 32, 116, 104, 32, 116, 104, 101, 97, 100, 32, 116, 105, 116, 108, 101, 32, 116, 114, 32, 116, 114, 97, 99, 107, 32, 117, 108, 32, 119, 98, 114, 32, 120, 109, 112] : Str), ([97, 32, 98, 32, 98, 105, 103, 32, 99, 111, 100, 101, 32, 101, 109, 32, 102, 111, 110, 116, 32, 105, 32, 110, 111, 98, 114, 32, 115, 32, 115, 109, 97, 108, 108, 32, 115, 116, 114, 105, 107, 101, 32, 115, 116, 114, 111, 110, 103, 32, 116, 116, 32, 117] : Str), ([100, 100, 32, 100, 116, 32, 108, 105, 32, 111, 112, 116, 105, 111, 110, 32, 112, 32, 114, 112, 32, 114, 116] : Str), ([104, 49, 32, 104, 50, 32, 104, 51, 32, 104, 52, 32, 104, 53, 32, 104, 54] : Str), ([97, 100, 100, 114, 101, 115, 115, 32, 97, 114, 116, 105, 99, 108, 101, 32, 97, 115, 105, 100, 101, 32, 98, 108, 111, 99, 107, 113, 117, 111, 116, 101, 32, 99, 101, 110, 116, 101, 114, 32, 100, 101, 116, 97, 105, 108, 115, 32, 100, 105, 114, 32, 100, 105, 118, 32, 100, 108, 32, 102, 105, 101, 108, 100, 115, 101, 116, 32, 102, 105, 103, 99, 97, 112, 116, 105, 111, 110, 32, 102, 105, 103, 117, 114, 101, 32, 102, 111, 111, 116, 101, 114, 32, 102, 111, 114, 109, 32, 104, 101, 97, 100, 101, 114, 32, 104, 103, 114, 111, 117, 112, 32, 109, 97, 105, 110, 32, 109, 101, 110, 117, 32, 110, 97, 118, 32, 111, 108, 32, 112, 114, 101, 32, 115, 101, 97, 114, 99, 104, 32, 115, 101, 99, 116, 105, 111, 110, 32, 115, 117, 109, 109, 97, 114, 121, 32, 117, 108] : Str), ([97, 112, 112, 108, 101, 116, 32, 109, 97, 114, 113, 117, 101, 101, 32, 111, 98, 106, 101, 99, 116] : Str), ([98, 97, 115, 101, 32, 108, 105, 110, 107, 32, 109, 101, 116, 97, 32, 116, 105, 116, 108, 101, 32, 115, 116, 121, 108, 101, 32, 115, 99, 114, 105, 112, 116, 32, 110, 111, 102, 114, 97, 109, 101, 115] : Str)] : List Str).getD sort_1.toNat [])))] ⟨rfl, trivial⟩
    refine then_normal ?_
    refine wp_ret ?_
    have ht40 := ht36 w13 B_5 hN19  hC18
    exact res_all (vs := [.string (Bs (([([] : Str), ([97, 114, 101, 97, 32, 98, 97, 115, 101, 32, 98, 114, 32, 99, 111, 108, 32, 101, 109, 98, 101, 100, 32, 104, 114, 32, 105, 109, 103, 32, 105, 110, 112, 117, 116, 32, 108, 105, 110, 107, 32, 109, 101, 116, 97, 32, 112, 97, 114, 97, 109, 32, 115, 111, 117, 114, 99, 101, 32, 116, 114, 97, 99, 107, 32, 119, 98, 114] : Str), ([97, 100, 100, 114, 101, 115, 115, 32, 97, 112, 112, 108, 101, 116, 32, 97, 114, 101, 97, 32, 97, 114, 116, 105, 99, 108, 101, 32, 97, 115, 105, 100, 101, 32, 98, 97, 115, 101, 32, 98, 108, 111, 99, 107, 113, 117, 111, 116, 101, 32, 98, 111, 100, 121, 32, 98, 114, 32, 98, 117, 116, 116, 111, 110, 32, 99, 97, 112, 116, 105, 111, 110, 32, 99, 101, 110, 116, 101, 114, 32, 99, 111, 108, 32, 99, 111, 108, 103, 114, 111, 117, 112, 32, 100, 100, 32, 100, 101, 116, 97, 105, 108, 115, 32, 100, 105, 114, 32, 100, 105, 118, 32, 100, 108, 32, 100, 116, 32, 101, 109, 98, 101, 100, 32, 102, 105, 101, 108, 100, 115, 101, 116, 32, 102, 105, 103, 99, 97, 112, 116, 105, 111, 110, 32, 102, 105, 103, 117, 114, 101, 32, 102, 111, 111, 116, 101, 114, 32, 102, 111, 114, 109, 32, 104, 49, 32, 104, 50, 32, 104, 51, 32, 104, 52, 32, 104, 53, 32, 104, 54, 32, 104, 101, 97, 100, 32, 104, 101, 97, 100, 101, 114, 32, 104, 103, 114, 111, 117, 112, 32, 104, 114, 32, 104, 116, 109, 108, 32, 105, 102, 114, 97, 109, 101, 32, 105, 109, 103, 32, 105, 110, 112, 117, 116, 32, 108, 105, 32, 108, 105, 110, 107, 32, 109, 97, 105, 110, 32, 109, 97, 114, 113, 117, 101, 101, 32, 109, 101, 110, 117, 32, 109, 101, 116, 97, 32, 110, 97, 118, 32, 110, 111, 101, 109, 98, 101, 100, 32, 110, 111, 102, 114, 97, 109, 101, 115, 32, 111, 98, 106, 101, 99, 116, 32, 111, 108, 32, 112, 32, 112, 97, 114, 97, 109, 32, 112, 114, 101, 32, 115, 99, 114, 105, 112, 116, 32, 115, 101, 97, 114, 99, 104, 32, 115, 101, 99, 116, 105, 111, 110, 32, 115, 101, 108, 101, 99, 116, 32, 115, 111, 117, 114, 99, 101, 32, 115, 116, 121, 108, 101, 32, 115, 117, 109, 109, 97, 114, 121, 32, 116, 97, 98, 108, 101, 32, 116, 98, 111, 100, 121, 32, 116, 100, 32, 116, 101, 120, 116, 97, 114, 101, 97, 32, 116, 102, 111, 111, 116, 32, 116, 104, 32, 116, 104, 101, 97, 100, 32, 116, 105, 116, 108, 101, 32, 116, 114, 32, 116, 114, 97, 99, 107, 32, 117, 108, 32, 119, 98, 114, 32, 120, 109, 112] : Str), ([97, 32, 98, 32, 98, 105, 103, 32, 99, 111, 100, 101, 32, 101, 109, 32, 102, 111, 110, 116, 32, 105, 32, 110, 111, 98, 114, 32, 115, 32, 115, 109, 97, 108, 108, 32, 115, 116, 114, 105, 107, 101, 32, 115, 116, 114, 111, 110, 103, 32, 116, 116, 32, 117] : Str), ([100, 100, 32, 100, 116, 32, 108, 105, 32, 111, 112, 116, 105, 111, 110, 32, 112, 32, 114, 112, 32, 114, 116] : Str), ([104, 49, 32, 104, 50, 32, 104, 51, 32, 104, 52, 32, 104, 53, 32, 104, 54] : Str), ([97, 100, 100, 114, 101, 115, 115, 32, 97, 114, 116, 105, 99, 108, 101, 32, 97, 115, 105, 100, 101, 32, 98, 108, 111, 99, 107, 113, 117, 111, 116, 101, 32, 99, 101, 110, 116, 101, 114, 32, 100, 101, 116, 97, 105, 108, 115, 32, 100, 105, 114, 32, 100, 105, 118, 32, 100, 108, 32, 102, 105, 101, 108, 100, 115, 101, 116, 32, 102, 105, 103, 99, 97, 112, 116, 105, 111, 110, 32, 102, 105, 103, 117, 114, 101, 32, 102, 111, 111, 116, 101, 114, 32, 102, 111, 114, 109, 32, 104, 101, 97, 100, 101, 114, 32, 104, 103, 114, 111, 117, 112, 32, 109, 97, 105, 110, 32, 109, 101, 110, 117, 32, 110, 97, 118, 32, 111, 108, 32, 112, 114, 101, 32, 115, 101, 97, 114, 99, 104, 32, 115, 101, 99, 116, 105, 111, 110, 32, 115, 117, 109, 109, 97, 114, 121, 32, 117, 108] : Str), ([97, 112, 112, 108, 101, 116, 32, 109, 97, 114, 113, 117, 101, 101, 32, 111, 98, 106, 101, 99, 116] : Str), ([98, 97, 115, 101, 32, 108, 105, 110, 107, 32, 109, 101, 116, 97, 32, 116, 105, 116, 108, 101, 32, 115, 116, 121, 108, 101, 32, 115, 99, 114, 105, 112, 116, 32, 110, 111, 102, 114, 97, 109, 101, 115] : Str)] : List Str).getD sort_1.toNat []))]) rfl hA39 ⟨res_of_tmp hA39 rfl, trivial⟩ ht40

/-- The condition of topiary/stack.border. -/
def stack_border.vc (name_1 : Str) (scope_2 : Int) (R : Value → World → Prop) (w : World) : Prop :=
(((name_1 = ([104, 116, 109, 108] : Str)) ∨ (name_1 = ([116, 97, 98, 108, 101] : Str))) →
R (.bool true) w) ∧
(((¬ (name_1 = ([104, 116, 109, 108] : Str))) ∧ (¬ (name_1 = ([116, 97, 98, 108, 101] : Str)))) →
((scope_2 = 4) →
R (.bool false) w) ∧
((¬ (scope_2 = 4)) →
((((scope_2 = 2) ∧ ((name_1 = ([111, 108] : Str)) ∨ (name_1 = ([117, 108] : Str)))) ∨ ((scope_2 = 3) ∧ (name_1 = ([98, 117, 116, 116, 111, 110] : Str)))) →
R (.bool true) w) ∧
((((¬ (scope_2 = 2)) ∨ ((¬ (name_1 = ([111, 108] : Str))) ∧ (¬ (name_1 = ([117, 108] : Str))))) ∧ ((¬ (scope_2 = 3)) ∨ (¬ (name_1 = ([98, 117, 116, 116, 111, 110] : Str))))) →
CallK Tryd.prog 20 #[.string (Bs ([97, 112, 112, 108, 101, 116, 32, 99, 97, 112, 116, 105, 111, 110, 32, 116, 100, 32, 116, 104, 32, 109, 97, 114, 113, 117, 101, 101, 32, 111, 98, 106, 101, 99, 116] : Str)), .string (Bs name_1)] w [] (fun v w63 => ∃ (r_61 : Bool), v = .bool r_61 ∧
R (.bool r_61) w63))))
set_option maxHeartbeats 1000000 in
set_option maxRecDepth 10000 in
theorem stack_border.ok (name_1 : Str) (scope_2 : Int) {R : Value → World → Prop} {w : World} (ht0 : stack_border.vc name_1 scope_2 R w) : Calls Tryd.prog 23 #[.string (Bs name_1), .int .i64 scope_2] w (Ret R) := by
  refine enter [.string (Bs name_1), .int .i64 scope_2] Tryd.func23 rfl Tryd.ntmps23 rfl ?_
  intro a0 hA0
  unfold stack_border.vc at ht0
  refine wp_seq ?_
  refine wp_region_lit ?_
  refine sq (opk_val hA0 rfl (r_assign rfl) fun a3 hA3 _ => ?_)
  refine sq_end ?_
  have hA4 := hA3.keep [(0, .string (Bs name_1)), (1, .int .i64 scope_2)] ⟨rfl, rfl, trivial⟩
  refine then_normal ?_
  refine wp_seq ?_
  refine wp_block ?_
  refine wp_seq ?_
  refine wp_region_lit ?_
  refine sq (opk_val hA4 rfl (r_move (hA4.get rfl)) fun a5 hA5 _ => ?_)
  refine sq (opk_val hA5 rfl (r_seql (hA5.get rfl) rfl) fun a6 hA6 _ => ?_)
  refine sq (opk_val hA6 rfl (r_move (hA6.get rfl)) fun a7 hA7 _ => ?_)
  refine sq (opk_gval hA7 rfl rfl (g := true) (e := (decide (name_1 = ([104, 116, 109, 108] : Str)))) rfl (fun hg => r_move (hA7.get rfl)) fun a8 hA8 _ => ?_)
  refine sq (opk_gval hA8 rfl rfl (g := true) (e := (decide (name_1 = ([104, 116, 109, 108] : Str)))) rfl (fun hg => r_seql (cv_get (hA8.get rfl) hg) rfl) fun a9 hA9 _ => ?_)
  refine sq (opk_val hA9 rfl (r_pick_or (g := (true && ((decide (name_1 = ([104, 116, 109, 108] : Str))) == false))) (hA9.get rfl) (hA9.get rfl) (fun he => g_mkf rfl he)) fun a10 hA10 _ => ?_)
  refine sq (opk_val hA10 rfl (r_assign (hA10.get rfl)) fun a11 hA11 _ => ?_)
  refine sq_end ?_
  have hA12 := hA11.keep [(0, .string (Bs name_1)), (1, .int .i64 scope_2), (5, .bool ((decide (name_1 = ([104, 116, 109, 108] : Str))) || (decide (name_1 = ([116, 97, 98, 108, 101] : Str)))))] ⟨rfl, rfl, rfl, trivial⟩
  refine then_normal ?_
  refine wp_cond_split (hA12.get rfl) (fun hc => ?_) (fun hc => ?_)
  · have ht13 := ht0.1 ((b_or_t hc).imp (fun h => (of_decide_eq_true h)) (fun h => (of_decide_eq_true h)))
    clear hc
    refine wp_seq ?_
    refine wp_region_lit ?_
    refine sq (opk_val hA12 rfl (r_assign rfl) fun a15 hA15 _ => ?_)
    refine sq_end ?_
    have hA16 := hA15.keep [(4, .bool true)] ⟨rfl, trivial⟩
    refine then_normal ?_
    refine wp_ret ?_
    refine block_ret ?_
    refine then_ret ?_
    exact res_all (vs := [.bool true]) rfl hA16 ⟨res_of_tmp hA16 rfl, trivial⟩ ht13
  · have ht14 := ht0.2 ⟨(of_decide_eq_false (b_or_f hc).1), (of_decide_eq_false (b_or_f hc).2)⟩
    clear hc
    refine wp_seq ?_
    refine wp_region_lit ?_
    refine sq (opk_val hA12 rfl (r_move (hA12.get rfl)) fun a17 hA17 _ => ?_)
    refine sq (opk_val hA17 rfl (r_eql (hA17.get rfl) rfl) fun a18 hA18 _ => ?_)
    refine sq (opk_val hA18 rfl (r_assign (hA18.get rfl)) fun a19 hA19 _ => ?_)
    refine sq_end ?_
    have hA20 := hA19.keep [(0, .string (Bs name_1)), (1, .int .i64 scope_2), (12, .bool (decide (scope_2 = 4)))] ⟨rfl, rfl, rfl, trivial⟩
    refine then_normal ?_
    refine wp_cond_split (hA20.get rfl) (fun hc => ?_) (fun hc => ?_)
    · have ht21 := ht14.1 (of_decide_eq_true hc)
      clear hc
      refine wp_seq ?_
      refine wp_region_lit ?_
      refine sq (opk_val hA20 rfl (r_assign rfl) fun a23 hA23 _ => ?_)
      refine sq_end ?_
      have hA24 := hA23.keep [(4, .bool false)] ⟨rfl, trivial⟩
      refine then_normal ?_
      refine wp_ret ?_
      refine block_ret ?_
      refine then_ret ?_
      exact res_all (vs := [.bool false]) rfl hA24 ⟨res_of_tmp hA24 rfl, trivial⟩ ht21
    · have ht22 := ht14.2 (of_decide_eq_false hc)
      clear hc
      refine wp_seq ?_
      refine wp_seq ?_
      refine wp_region_lit ?_
      refine sq (opk_val hA20 rfl (r_move (hA20.get rfl)) fun a25 hA25 _ => ?_)
      refine sq (opk_val hA25 rfl (r_eql (hA25.get rfl) rfl) fun a26 hA26 _ => ?_)
      refine sq (opk_val hA26 rfl (r_move (hA26.get rfl)) fun a27 hA27 _ => ?_)
      refine sq (opk_gval hA27 rfl rfl (g := true) (e := (decide (scope_2 = 2))) rfl (fun hg => r_move (hA27.get rfl)) fun a28 hA28 _ => ?_)
      refine sq (opk_gval hA28 rfl rfl (g := true) (e := (decide (scope_2 = 2))) rfl (fun hg => r_seql (cv_get (hA28.get rfl) hg) rfl) fun a29 hA29 _ => ?_)
      refine sq (opk_gval hA29 rfl rfl (g := true) (e := (decide (scope_2 = 2))) rfl (fun hg => r_move (cv_get (hA29.get rfl) hg)) fun a30 hA30 _ => ?_)
      refine sq (opk_gval hA30 rfl rfl (g := (true && ((decide (scope_2 = 2)) == true))) (e := (decide (name_1 = ([111, 108] : Str)))) rfl (fun hg => r_move (hA30.get rfl)) fun a31 hA31 _ => ?_)
      refine sq (opk_gval hA31 rfl rfl (g := (true && ((decide (scope_2 = 2)) == true))) (e := (decide (name_1 = ([111, 108] : Str)))) rfl (fun hg => r_seql (cv_get (hA31.get rfl) hg) rfl) fun a32 hA32 _ => ?_)
      refine sq (opk_gval hA32 rfl rfl (g := true) (e := (decide (scope_2 = 2))) rfl (fun hg => r_pick_or (g := ((true && ((decide (scope_2 = 2)) == true)) && ((decide (name_1 = ([111, 108] : Str))) == false))) (cv_get (hA32.get rfl) hg) (hA32.get rfl) (fun he => g_mkf hg he)) fun a33 hA33 _ => ?_)
      refine sq (opk_val hA33 rfl (r_pick_and (g := (true && ((decide (scope_2 = 2)) == true))) (hA33.get rfl) (hA33.get rfl) (fun he => g_mkt rfl he)) fun a34 hA34 _ => ?_)
      refine sq (opk_val hA34 rfl (r_assign (hA34.get rfl)) fun a35 hA35 _ => ?_)
      refine sq_end ?_
      have hA36 := hA35.keep [(0, .string (Bs name_1)), (1, .int .i64 scope_2), (15, .bool ((decide (scope_2 = 2)) && ((decide (name_1 = ([111, 108] : Str))) || (decide (name_1 = ([117, 108] : Str))))))] ⟨rfl, rfl, rfl, trivial⟩
      refine then_normal ?_
      refine wp_meet (fun a wq => Ag 34 a [(0, .string (Bs name_1)), (15, .bool (((decide (scope_2 = 2)) && ((decide (name_1 = ([111, 108] : Str))) || (decide (name_1 = ([117, 108] : Str))))) || ((decide (scope_2 = 3)) && (decide (name_1 = ([98, 117, 116, 116, 111, 110] : Str))))))] ∧ wq = w) ?_ ?_
      · refine wp_cond_split (hA36.get rfl) (fun hc => ?_) (fun hc => ?_)
        · refine wp_skip ?_
          have hA45 := hA36.say (t := 15) rfl (.bool (((decide (scope_2 = 2)) && ((decide (name_1 = ([111, 108] : Str))) || (decide (name_1 = ([117, 108] : Str))))) || ((decide (scope_2 = 3)) && (decide (name_1 = ([98, 117, 116, 116, 111, 110] : Str)))))) (by rw [hc]; rfl)
          exact then_normal ⟨hA45.keep [(0, .string (Bs name_1)), (15, .bool (((decide (scope_2 = 2)) && ((decide (name_1 = ([111, 108] : Str))) || (decide (name_1 = ([117, 108] : Str))))) || ((decide (scope_2 = 3)) && (decide (name_1 = ([98, 117, 116, 116, 111, 110] : Str))))))] ⟨rfl, rfl, trivial⟩, rfl⟩
        · refine wp_region_lit ?_
          refine sq (opk_val hA36 rfl (r_move (hA36.get rfl)) fun a46 hA46 _ => ?_)
          refine sq (opk_val hA46 rfl (r_eql (hA46.get rfl) rfl) fun a47 hA47 _ => ?_)
          refine sq (opk_val hA47 rfl (r_move (hA47.get rfl)) fun a48 hA48 _ => ?_)
          refine sq (opk_gval hA48 rfl rfl (g := true) (e := (decide (scope_2 = 3))) rfl (fun hg => r_move (hA48.get rfl)) fun a49 hA49 _ => ?_)
          refine sq (opk_gval hA49 rfl rfl (g := true) (e := (decide (scope_2 = 3))) rfl (fun hg => r_seql (cv_get (hA49.get rfl) hg) rfl) fun a50 hA50 _ => ?_)
          refine sq (opk_val hA50 rfl (r_pick_and (g := (true && ((decide (scope_2 = 3)) == true))) (hA50.get rfl) (hA50.get rfl) (fun he => g_mkt rfl he)) fun a51 hA51 _ => ?_)
          refine sq (opk_val hA51 rfl (r_assign (hA51.get rfl)) fun a52 hA52 _ => ?_)
          refine sq_end ?_
          have hA53 := hA52.keep [(0, .string (Bs name_1)), (15, .bool ((decide (scope_2 = 3)) && (decide (name_1 = ([98, 117, 116, 116, 111, 110] : Str)))))] ⟨rfl, rfl, trivial⟩
          have hA54 := hA53.say (t := 15) rfl (.bool (((decide (scope_2 = 2)) && ((decide (name_1 = ([111, 108] : Str))) || (decide (name_1 = ([117, 108] : Str))))) || ((decide (scope_2 = 3)) && (decide (name_1 = ([98, 117, 116, 116, 111, 110] : Str)))))) (by rw [hc]; rfl)
          exact then_normal ⟨hA54.keep [(0, .string (Bs name_1)), (15, .bool (((decide (scope_2 = 2)) && ((decide (name_1 = ([111, 108] : Str))) || (decide (name_1 = ([117, 108] : Str))))) || ((decide (scope_2 = 3)) && (decide (name_1 = ([98, 117, 116, 116, 111, 110] : Str))))))] ⟨rfl, rfl, trivial⟩, rfl⟩
      · rintro a55 w_ ⟨hA55, hw_⟩
        have hw_ : w = w_ := hw_.symm
        subst hw_
        refine then_normal ?_
        refine wp_cond_split (hA55.get rfl) (fun hc => ?_) (fun hc => ?_)
        · have ht56 := ht22.1 ((b_or_t hc).imp (fun h => ⟨(of_decide_eq_true (b_and_t h).1), ((b_or_t (b_and_t h).2).imp (fun h => (of_decide_eq_true h)) (fun h => (of_decide_eq_true h)))⟩) (fun h => ⟨(of_decide_eq_true (b_and_t h).1), (of_decide_eq_true (b_and_t h).2)⟩))
          clear hc
          refine wp_seq ?_
          refine wp_region_lit ?_
          refine sq (opk_val hA55 rfl (r_assign rfl) fun a58 hA58 _ => ?_)
          refine sq_end ?_
          have hA59 := hA58.keep [(4, .bool true)] ⟨rfl, trivial⟩
          refine then_normal ?_
          refine wp_ret ?_
          refine block_ret ?_
          refine then_ret ?_
          exact res_all (vs := [.bool true]) rfl hA59 ⟨res_of_tmp hA59 rfl, trivial⟩ ht56
        · have ht57 := ht22.2 ⟨((b_and_f (b_or_f hc).1).imp (fun h => (of_decide_eq_false h)) (fun h => ⟨(of_decide_eq_false (b_or_f h).1), (of_decide_eq_false (b_or_f h).2)⟩)), ((b_and_f (b_or_f hc).2).imp (fun h => (of_decide_eq_false h)) (fun h => (of_decide_eq_false h)))⟩
          clear hc
          refine wp_skip ?_
          refine block_normal ?_
          refine then_normal ?_
          refine wp_seq ?_
          refine wp_region_lit ?_
          refine sq (opk_val hA55 rfl (r_move (hA55.get rfl)) fun a60 hA60 _ => ?_)
          refine sq (opk_call hA60 rfl (r_call (args := #[.string (Bs ([97, 112, 112, 108, 101, 116, 32, 99, 97, 112, 116, 105, 111, 110, 32, 116, 100, 32, 116, 104, 32, 109, 97, 114, 113, 117, 101, 101, 32, 111, 98, 106, 101, 99, 116] : Str)), .string (Bs name_1)]) Tryd.func20 (by decide) rfl (map_arr (ml_cons rfl (ml_cons (hA60.get rfl) ml_nil))) rfl) ht57 fun a62 v68 w63 hA62 _ hn65 hz66 hK67 => ?_)
          obtain ⟨r_61, rfl, ht64⟩ := hK67
          refine sq (opk_val hA62 rfl (r_assign (hA62.get rfl)) fun a69 hA69 _ => ?_)
          refine sq_end ?_
          have hA70 := hA69.keep [(4, .bool r_61)] ⟨rfl, trivial⟩
          refine then_normal ?_
          refine wp_ret ?_
          exact res_all (vs := [.bool r_61]) rfl hA70 ⟨res_of_tmp hA70 rfl, trivial⟩ ht64

end Go.Proofs.YtnmpenfpajfoaaaDoor
