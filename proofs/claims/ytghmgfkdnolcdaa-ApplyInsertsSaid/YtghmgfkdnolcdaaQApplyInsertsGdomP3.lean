/-
  PRINTED BY PROGRAM: for each function its condition (vc), and that this suffices (ok).
-/
import Derived.Test.YtghmgfkdnolcdaaQApplyInsertsGT
namespace Go.Proofs.Ytghmgfkdnolcdaa
open Go.RowKit
set_option linter.unusedVariables false

/-- The condition of (*topiary/dom.Dom).Within. -/
def dom_Dom_Within.vc (d_1 : Addr) (id_2 : Int) (of_3 : Int) (R : Value → World → Prop) (w : World) : Prop :=
∃ (J_8 : Int → World → Prop) (mu_9 : Int → World → Nat),
J_8 of_3 w ∧
(∀ (of_6 : Int) (w7 : World), J_8 of_6 w7 →
CallK Try.prog 23 #[.pointer (some d_1), .int .i64 id_2] w7 [] (fun v w65 => ∃ (r_63 : Bool), v = .bool r_63 ∧
∃ (r_74 : Bool), (((r_63 = true)) → Calls Try.prog 23 #[.pointer (some d_1), .int .i64 of_6] w65 (Ret fun v w' => Ext w65 w' ∧ v = .bool r_74)) ∧
(∀ w76 : World, Ext w65 w76 →
(((r_63 = true) ∧ (r_74 = true)) →
((of_6 = id_2) →
R (.bool true) w76) ∧
((¬ (of_6 = id_2)) →
CallK Try.prog 33 #[.pointer (some d_1), .int .i64 of_6] w76 [] (fun v w98 => ∃ (r_96 : Int), v = .int .i64 r_96 ∧
J_8 r_96 w98 ∧ mu_9 r_96 w98 < mu_9 of_6 w7))) ∧
(((r_63 = false) ∨ (r_74 = false)) →
R (.bool false) w76))))
set_option maxHeartbeats 1000000 in
set_option maxRecDepth 10000 in
theorem dom_Dom_Within.ok (d_1 : Addr) (id_2 : Int) (of_3 : Int) {R : Value → World → Prop} {w : World} (ht0 : dom_Dom_Within.vc d_1 id_2 of_3 R w) : Calls Try.prog 59 #[.pointer (some d_1), .int .i64 id_2, .int .i64 of_3] w (Ret R) := by
  refine enter [.pointer (some d_1), .int .i64 id_2, .int .i64 of_3] Try.func59 rfl Try.ntmps59 rfl ?_
  intro a0 hA0
  unfold dom_Dom_Within.vc at ht0
  refine wp_seq ?_
  refine wp_region_lit ?_
  refine sq (opk_val hA0 rfl (r_assign rfl) fun a4 hA4 _ => ?_)
  refine sq_end ?_
  have hA5 := hA4.keep [(0, .pointer (some d_1)), (1, .int .i64 id_2), (2, .int .i64 of_3)] ⟨rfl, rfl, rfl, trivial⟩
  refine then_normal ?_
  refine wp_seq ?_
  refine wp_block ?_
  obtain ⟨J_8, mu_9, h058, ht57⟩ := ht0
  refine wp_loop_st (σ := Int × World) (fun s a w => Ag 21 a [(0, .pointer (some d_1)), (1, .int .i64 id_2), (2, .int .i64 s.1)] ∧ w = s.2 ∧ J_8 s.1 s.2) (fun s => mu_9 s.1 s.2) (of_3, w) ⟨hA5.keep [(0, .pointer (some d_1)), (1, .int .i64 id_2), (2, .int .i64 of_3)] ⟨rfl, rfl, rfl, trivial⟩, rfl, h058⟩ ?_
  rintro ⟨of_6, w7⟩ a56 w_ ⟨hA56, hw_, hJ60⟩
  have hw_ : w7 = w_ := hw_.symm
  subst hw_
  have ht59 := ht57 of_6 _ hJ60
  refine wp_seq ?_
  refine wp_seq ?_
  refine wp_region_lit ?_
  refine sq (opk_val hA56 rfl (r_move (hA56.get rfl)) fun a61 hA61 _ => ?_)
  refine sq (opk_val hA61 rfl (r_move (hA61.get rfl)) fun a62 hA62 _ => ?_)
  refine sq (opk_call hA62 rfl (r_call (args := #[.pointer (some d_1), .int .i64 id_2]) Try.func23 (by decide) rfl (map_arr (ml_cons (hA62.get rfl) (ml_cons (hA62.get rfl) ml_nil))) rfl) ht59 fun a64 v70 w65 hA64 _ hn67 hz68 hK69 => ?_)
  obtain ⟨r_63, rfl, ht66⟩ := hK69
  refine sq (opk_val hA64 rfl (r_move (hA64.get rfl)) fun a71 hA71 _ => ?_)
  refine sq (opk_gval hA71 rfl rfl (g := true) (e := r_63) rfl (fun hg => r_move (hA71.get rfl)) fun a72 hA72 _ => ?_)
  refine sq (opk_gval hA72 rfl rfl (g := true) (e := r_63) rfl (fun hg => r_move (hA72.get rfl)) fun a73 hA73 _ => ?_)
  obtain ⟨r_74, hc78, ht77⟩ := ht66
  refine sq (opk_gcall hA73 rfl rfl (g := true) (e := r_63) rfl (fun hg => r_call (args := #[.pointer (some d_1), .int .i64 of_6]) Try.func23 (by decide) rfl (map_arr (ml_cons (cv_get (hA73.get rfl) hg) (ml_cons (cv_get (hA73.get rfl) hg) ml_nil))) rfl) (fun hg => hc78 (g_t hg)) fun a75 w76 hA75 _ hE79 => ?_)
  have hC80 : Chg [] w65 w76 := hE79
  have ht81 := ht77 w76 hE79
  refine sq (opk_val hA75 rfl (r_pick_and (g := (true && (r_63 == true))) (hA75.get rfl) (hA75.get rfl) (fun he => g_mkt rfl he)) fun a82 hA82 _ => ?_)
  refine sq_end ?_
  have hA83 := hA82.keep [(0, .pointer (some d_1)), (1, .int .i64 id_2), (2, .int .i64 of_6), (14, .bool (r_63 && r_74))] ⟨rfl, rfl, rfl, rfl, trivial⟩
  refine then_normal ?_
  refine wp_cond_split (hA83.get rfl) (fun hc => ?_) (fun hc => ?_)
  · have ht84 := ht81.1 ⟨(b_and_t hc).1, (b_and_t hc).2⟩
    clear hc
    refine wp_skip ?_
    refine then_normal ?_
    refine wp_block ?_
    refine wp_seq ?_
    refine wp_seq ?_
    refine wp_region_lit ?_
    refine sq (opk_val hA83 rfl (r_move (hA83.get rfl)) fun a86 hA86 _ => ?_)
    refine sq (opk_val hA86 rfl (r_move (hA86.get rfl)) fun a87 hA87 _ => ?_)
    refine sq (opk_val hA87 rfl (r_eql (hA87.get rfl) (hA87.get rfl)) fun a88 hA88 _ => ?_)
    refine sq_end ?_
    have hA89 := hA88.keep [(0, .pointer (some d_1)), (1, .int .i64 id_2), (2, .int .i64 of_6), (17, .bool (decide (of_6 = id_2)))] ⟨rfl, rfl, rfl, rfl, trivial⟩
    refine then_normal ?_
    refine wp_cond_split (hA89.get rfl) (fun hc => ?_) (fun hc => ?_)
    · have ht90 := ht84.1 (of_decide_eq_true hc)
      clear hc
      refine wp_seq ?_
      refine wp_region_lit ?_
      refine sq (opk_val hA89 rfl (r_assign rfl) fun a92 hA92 _ => ?_)
      refine sq_end ?_
      have hA93 := hA92.keep [(6, .bool true)] ⟨rfl, trivial⟩
      refine then_normal ?_
      refine wp_ret ?_
      refine then_ret ?_
      refine block_ret ?_
      refine then_ret ?_
      refine block_ret ?_
      refine then_ret ?_
      exact res_all (vs := [.bool true]) rfl hA93 ⟨res_of_tmp hA93 rfl, trivial⟩ ht90
    · have ht91 := ht84.2 (of_decide_eq_false hc)
      clear hc
      refine wp_skip ?_
      refine then_normal ?_
      refine wp_region_lit ?_
      refine sq (opk_val hA89 rfl (r_move (hA89.get rfl)) fun a94 hA94 _ => ?_)
      refine sq (opk_val hA94 rfl (r_move (hA94.get rfl)) fun a95 hA95 _ => ?_)
      refine sq (opk_call hA95 rfl (r_call (args := #[.pointer (some d_1), .int .i64 of_6]) Try.func33 (by decide) rfl (map_arr (ml_cons (hA95.get rfl) (ml_cons (hA95.get rfl) ml_nil))) rfl) ht91 fun a97 v103 w98 hA97 _ hn100 hz101 hK102 => ?_)
      obtain ⟨r_96, rfl, ht99⟩ := hK102
      refine sq (opk_val hA97 rfl (r_assign (hA97.get rfl)) fun a104 hA104 _ => ?_)
      refine sq_end ?_
      have hA105 := hA104.keep [(0, .pointer (some d_1)), (1, .int .i64 id_2), (2, .int .i64 r_96)] ⟨rfl, rfl, rfl, trivial⟩
      refine block_normal ?_
      have hA106 := hA105.keep [(0, .pointer (some d_1)), (1, .int .i64 id_2), (2, .int .i64 r_96)] ⟨rfl, rfl, rfl, trivial⟩
      exact then_normal ⟨(r_96, w98), ⟨hA106, rfl, ht99.1⟩, ht99.2⟩
  · have ht85 := ht81.2 ((b_and_f hc).imp (fun h => h) (fun h => h))
    clear hc
    refine wp_exit ?_
    refine then_exit ?_
    refine then_exit ?_
    refine block_hit ?_
    have hA107 := hA83.keep [] trivial
    refine then_normal ?_
    refine wp_seq ?_
    refine wp_region_lit ?_
    refine sq (opk_val hA107 rfl (r_assign rfl) fun a108 hA108 _ => ?_)
    refine sq_end ?_
    have hA109 := hA108.keep [(6, .bool false)] ⟨rfl, trivial⟩
    refine then_normal ?_
    refine wp_ret ?_
    exact res_all (vs := [.bool false]) rfl hA109 ⟨res_of_tmp hA109 rfl, trivial⟩ ht85

/-- The condition of (*topiary/dom.Dom).height. -/
def dom_Dom_height.vc (d_1 : Addr) (id_2 : Int) (R : Value → World → Prop) (w : World) : Prop :=
CallK Try.prog 45 #[.pointer (some d_1), .int .i64 id_2] w [] (fun v w11 => ∃ (r_9 : Option Addr), v = .pointer r_9 ∧
∃ p_18 : Addr, (r_9 = some p_18) ∧
∃ (x_23 : Sl), (w11.cell? (p_18.add 7) = some (Sl.v x_23)) ∧
∃ (J_32 : Int → Int → World → Prop) (mu_33 : Int → Int → World → Nat),
J_32 0 0 w11 ∧
(∀ (h_29 : Int) (x_30 : Int) (w31 : World), J_32 h_29 x_30 w31 →
((x_30 < (x_23.n : Int)) →
((0 : Int) ≤ x_30 ∧ x_30 < (x_23.n : Int)) ∧ ∃ p_78 : Addr, x_23.a = some p_78 ∧
∃ (x_84 : Int), (w31.cell? (p_78.add (x_30.toNat * 1)) = some (.int .i64 x_84)) ∧
CallK Try.prog 60 #[.pointer (some d_1), .int .i64 x_84] w31 [] (fun v w94 => ∃ (r_92 : Int), v = .int .i64 r_92 ∧
(I64 (x_30 + 1)) ∧
J_32 (max h_29 r_92) (x_30 + 1) w94 ∧ mu_33 (max h_29 r_92) (x_30 + 1) w94 < mu_33 h_29 x_30 w31)) ∧
((¬ (x_30 < (x_23.n : Int))) →
(I64 (h_29 + 1)) ∧
R (.int .i64 (h_29 + 1)) w31)))
set_option maxHeartbeats 1000000 in
set_option maxRecDepth 10000 in
theorem dom_Dom_height.ok (d_1 : Addr) (id_2 : Int) {R : Value → World → Prop} {w : World} (ht0 : dom_Dom_height.vc d_1 id_2 R w) : Calls Try.prog 60 #[.pointer (some d_1), .int .i64 id_2] w (Ret R) := by
  refine enter [.pointer (some d_1), .int .i64 id_2] Try.func60 rfl Try.ntmps60 rfl ?_
  intro a0 hA0
  unfold dom_Dom_height.vc at ht0
  refine wp_seq ?_
  refine wp_region_lit ?_
  refine sq (opk_val hA0 rfl (r_assign rfl) fun a3 hA3 _ => ?_)
  refine sq_end ?_
  have hA4 := hA3.keep [(0, .pointer (some d_1)), (1, .int .i64 id_2)] ⟨rfl, rfl, trivial⟩
  refine then_normal ?_
  refine wp_seq ?_
  refine wp_region_lit ?_
  refine sq (opk_val hA4 rfl (r_assign rfl) fun a5 hA5 _ => ?_)
  refine sq_end ?_
  have hA6 := hA5.keep [(0, .pointer (some d_1)), (1, .int .i64 id_2), (5, .int .i64 0)] ⟨rfl, rfl, rfl, trivial⟩
  refine then_normal ?_
  refine wp_seq ?_
  refine wp_seq ?_
  refine wp_region_lit ?_
  refine sq (opk_val hA6 rfl (r_move (hA6.get rfl)) fun a7 hA7 _ => ?_)
  refine sq (opk_val hA7 rfl (r_move (hA7.get rfl)) fun a8 hA8 _ => ?_)
  refine sq (opk_call hA8 rfl (r_call (args := #[.pointer (some d_1), .int .i64 id_2]) Try.func45 (by decide) rfl (map_arr (ml_cons (hA8.get rfl) (ml_cons (hA8.get rfl) ml_nil))) rfl) ht0 fun a10 v16 w11 hA10 _ hn13 hz14 hK15 => ?_)
  obtain ⟨r_9, rfl, ht12⟩ := hK15
  obtain ⟨p_18, hp19, ht20⟩ := ht12
  refine sq (opk_val hA10 rfl (r_nilCheckP (((hA10.get rfl)).trans (congrArg Value.pointer hp19))) fun a17 hA17 _ => ?_)
  refine sq (opk_val hA17 rfl (r_fieldAddr (hA17.get rfl) Try.underlying76 rfl ti_36 (by decide)) fun a21 hA21 _ => ?_)
  obtain ⟨x_23, hx24, ht25⟩ := ht20
  refine sq (opk_val hA21 rfl (r_load1 Try.underlying36 rfl (hA21.get rfl) hx24) fun a22 hA22 _ => ?_)
  refine sq (opk_val hA22 rfl (r_len (hA22.get rfl) Try.underlying36) fun a26 hA26 _ => ?_)
  refine sq (opk_val hA26 rfl (r_move rfl) fun a27 hA27 _ => ?_)
  refine sq_end ?_
  have hA28 := hA27.keep [(0, .pointer (some d_1)), (5, .int .i64 0), (13, Sl.v x_23), (14, .int .i64 (x_23.n : Int)), (15, .int .i64 0)] ⟨rfl, rfl, rfl, rfl, rfl, trivial⟩
  refine then_normal ?_
  refine wp_block ?_
  obtain ⟨J_32, mu_33, h071, ht70⟩ := ht25
  refine wp_loop_st (σ := Int × Int × World) (fun s a w => Ag 27 a [(0, .pointer (some d_1)), (5, .int .i64 s.1), (13, Sl.v x_23), (14, .int .i64 (x_23.n : Int)), (15, .int .i64 s.2.1)] ∧ w = s.2.2 ∧ J_32 s.1 s.2.1 s.2.2) (fun s => mu_33 s.1 s.2.1 s.2.2) (0, 0, w11) ⟨hA28.keep [(0, .pointer (some d_1)), (5, .int .i64 0), (13, Sl.v x_23), (14, .int .i64 (x_23.n : Int)), (15, .int .i64 0)] ⟨rfl, rfl, rfl, rfl, rfl, trivial⟩, rfl, h071⟩ ?_
  rintro ⟨h_29, x_30, w31⟩ a69 w_ ⟨hA69, hw_, hJ73⟩
  have hw_ : w31 = w_ := hw_.symm
  subst hw_
  have ht72 := ht70 h_29 x_30 _ hJ73
  refine wp_seq ?_
  refine wp_region_lit ?_
  refine sq (opk_val hA69 rfl (r_lss (hA69.get rfl) (hA69.get rfl)) fun a74 hA74 _ => ?_)
  refine sq_end ?_
  have hA75 := hA74.keep [(0, .pointer (some d_1)), (5, .int .i64 h_29), (13, Sl.v x_23), (14, .int .i64 (x_23.n : Int)), (15, .int .i64 x_30), (16, .bool (decide (x_30 < (x_23.n : Int))))] ⟨rfl, rfl, rfl, rfl, rfl, rfl, trivial⟩
  refine then_normal ?_
  refine wp_seq ?_
  refine wp_cond_split (hA75.get rfl) (fun hc => ?_) (fun hc => ?_)
  · have ht76 := ht72.1 (of_decide_eq_true hc)
    clear hc
    refine wp_skip ?_
    refine then_normal ?_
    refine wp_seq ?_
    refine wp_block ?_
    refine wp_seq ?_
    refine wp_region_lit ?_
    obtain ⟨hb79, p_78, hp80, ht81⟩ := ht76
    refine sq (opk_val hA75 rfl (r_indexAddr (hA75.get rfl) (hA75.get rfl) Try.underlying36 ti_3 hb79 hp80) fun a82 hA82 _ => ?_)
    obtain ⟨x_84, hx85, ht86⟩ := ht81
    refine sq (opk_val hA82 rfl (r_load1 Try.underlying3 rfl (hA82.get rfl) hx85) fun a83 hA83 _ => ?_)
    refine sq (opk_val hA83 rfl (r_assign (hA83.get rfl)) fun a87 hA87 _ => ?_)
    refine sq_end ?_
    have hA88 := hA87.keep [(0, .pointer (some d_1)), (5, .int .i64 h_29), (7, .int .i64 x_84), (13, Sl.v x_23), (14, .int .i64 (x_23.n : Int)), (15, .int .i64 x_30)] ⟨rfl, rfl, rfl, rfl, rfl, rfl, trivial⟩
    refine then_normal ?_
    refine wp_region_lit ?_
    refine sq (opk_val hA88 rfl (r_move (hA88.get rfl)) fun a89 hA89 _ => ?_)
    refine sq (opk_val hA89 rfl (r_move (hA89.get rfl)) fun a90 hA90 _ => ?_)
    refine sq (opk_val hA90 rfl (r_move (hA90.get rfl)) fun a91 hA91 _ => ?_)
    refine sq (opk_call hA91 rfl (r_call (args := #[.pointer (some d_1), .int .i64 x_84]) Try.func60 (by decide) rfl (map_arr (ml_cons (hA91.get rfl) (ml_cons (hA91.get rfl) ml_nil))) rfl) ht86 fun a93 v99 w94 hA93 _ hn96 hz97 hK98 => ?_)
    obtain ⟨r_92, rfl, ht95⟩ := hK98
    refine sq (opk_val hA93 rfl (r_max (hA93.get rfl) (hA93.get rfl)) fun a100 hA100 _ => ?_)
    refine sq (opk_val hA100 rfl (r_assign (hA100.get rfl)) fun a101 hA101 _ => ?_)
    refine sq_end ?_
    have hA102 := hA101.keep [(0, .pointer (some d_1)), (5, .int .i64 (max h_29 r_92)), (13, Sl.v x_23), (14, .int .i64 (x_23.n : Int)), (15, .int .i64 x_30)] ⟨rfl, rfl, rfl, rfl, rfl, trivial⟩
    refine block_normal ?_
    refine then_normal ?_
    refine wp_region_lit ?_
    obtain ⟨hS104, ht105⟩ := ht95
    refine sq (opk_val hA102 rfl (r_addI (hA102.get rfl) rfl hS104) fun a103 hA103 _ => ?_)
    refine sq (opk_val hA103 rfl (r_move (hA103.get rfl)) fun a106 hA106 _ => ?_)
    refine sq_end ?_
    have hA107 := hA106.keep [(0, .pointer (some d_1)), (5, .int .i64 (max h_29 r_92)), (13, Sl.v x_23), (14, .int .i64 (x_23.n : Int)), (15, .int .i64 (x_30 + 1))] ⟨rfl, rfl, rfl, rfl, rfl, trivial⟩
    have hA108 := hA107.keep [(0, .pointer (some d_1)), (5, .int .i64 (max h_29 r_92)), (13, Sl.v x_23), (14, .int .i64 (x_23.n : Int)), (15, .int .i64 (x_30 + 1))] ⟨rfl, rfl, rfl, rfl, rfl, trivial⟩
    exact then_normal ⟨(max h_29 r_92, x_30 + 1, w94), ⟨hA108, rfl, ht105.1⟩, ht105.2⟩
  · have ht77 := ht72.2 (of_decide_eq_false hc)
    clear hc
    refine wp_exit ?_
    refine then_exit ?_
    refine then_exit ?_
    refine block_hit ?_
    have hA109 := hA75.keep [(5, .int .i64 h_29)] ⟨rfl, trivial⟩
    refine then_normal ?_
    refine wp_seq ?_
    refine wp_region_lit ?_
    refine sq (opk_val hA109 rfl (r_move (hA109.get rfl)) fun a110 hA110 _ => ?_)
    obtain ⟨hS112, ht113⟩ := ht77
    refine sq (opk_val hA110 rfl (r_addI (hA110.get rfl) rfl hS112) fun a111 hA111 _ => ?_)
    refine sq (opk_val hA111 rfl (r_assign (hA111.get rfl)) fun a114 hA114 _ => ?_)
    refine sq_end ?_
    have hA115 := hA114.keep [(4, .int .i64 (h_29 + 1))] ⟨rfl, trivial⟩
    refine then_normal ?_
    refine wp_ret ?_
    exact res_all (vs := [.int .i64 (h_29 + 1)]) rfl hA115 ⟨res_of_tmp hA115 rfl, trivial⟩ ht113

/-- The condition of (*topiary/dom.node).attr.1. -/
def dom_node_attr_1.vc (a_1_Name : Str) (a_1_Value : Str) (name_2 : Str) (R : Value → World → Prop) (w : World) : Prop :=
∀ (w4 : World) (B_3 : Nat), New w B_3 w4 → Chg [] w w4 →
CallK Try.prog 78 #[.string (Bs a_1_Name), .string (Bs name_2)] w4 [B_3] (fun v w19 => ∃ (r_17 : Int), v = .int .i64 r_17 ∧
R (.int .i64 r_17) w19)
set_option maxHeartbeats 1000000 in
set_option maxRecDepth 10000 in
theorem dom_node_attr_1.ok (a_1_Name : Str) (a_1_Value : Str) (name_2 : Str) {R : Value → World → Prop} {w : World} (ht0 : dom_node_attr_1.vc a_1_Name a_1_Value name_2 R w) : Calls Try.prog 77 #[.agg #[.string (Bs a_1_Name), .string (Bs a_1_Value)], .string (Bs name_2)] w (Ret R) := by
  refine enter [.agg #[.string (Bs a_1_Name), .string (Bs a_1_Value)], .string (Bs name_2)] Try.func77 rfl Try.ntmps77 rfl ?_
  intro a0 hA0
  unfold dom_node_attr_1.vc at ht0
  refine wp_seq ?_
  refine wp_region_lit ?_
  refine sq (opk_new (fun B => .pointer (some ⟨B, 0, none⟩)) hA0 rfl (r_box (cs := [.string (Bs a_1_Name), .string (Bs a_1_Value)]) (hA0.get rfl) rfl) fun a5 w4 B_3 hE6 hN7 hB8 hA5 _ => ?_)
  have hN9 : New w B_3 w4 := hN7
  have hC10 : Chg [] w w4 := hE6
  refine sq (opk_val hA5 rfl (r_assign rfl) fun a11 hA11 _ => ?_)
  refine sq_end ?_
  have hA12 := hA11.keep [(1, .string (Bs name_2)), (2, .pointer (some (⟨B_3, 0, none⟩ : Addr)))] ⟨rfl, rfl, trivial⟩
  refine then_normal ?_
  refine wp_seq ?_
  refine wp_region_lit ?_
  refine sq (opk_val hA12 rfl (r_fieldAddr (hA12.get rfl) Try.underlying65 rfl ti_9 (by decide)) fun a13 hA13 _ => ?_)
  refine sq (opk_val hA13 rfl (r_load1 Try.underlying9 rfl (hA13.get rfl) (hB8.cell 0 _ rfl)) fun a14 hA14 _ => ?_)
  refine sq (opk_val hA14 rfl (r_move (hA14.get rfl)) fun a15 hA15 _ => ?_)
  have ht16 := ht0 w4 B_3 hN9  hC10
  refine sq (opk_call hA15 rfl (r_call (args := #[.string (Bs a_1_Name), .string (Bs name_2)]) Try.func78 (by decide) rfl (map_arr (ml_cons (hA15.get rfl) (ml_cons (hA15.get rfl) ml_nil))) rfl) ht16 fun a18 v24 w19 hA18 _ hn21 hz22 hK23 => ?_)
  obtain ⟨r_17, rfl, ht20⟩ := hK23
  have hB25 := hB8.kept hn21 (.head _)
  refine sq (opk_val hA18 rfl (r_assign (hA18.get rfl)) fun a26 hA26 _ => ?_)
  refine sq_end ?_
  have hA27 := hA26.keep [(4, .int .i64 r_17)] ⟨rfl, trivial⟩
  refine then_normal ?_
  refine wp_ret ?_
  exact res_all (vs := [.int .i64 r_17]) rfl hA27 ⟨res_of_tmp hA27 rfl, trivial⟩ ht20

/-- The condition of (*topiary/dom.Dom).out.1. -/
def dom_Dom_out_1.vc (k_1 : Int) (x_2 : Addr) (R : Value → World → Prop) (w : World) : Prop :=
∃ (x_7 : Int), (w.cell? x_2 = some (.int .i64 x_7)) ∧
R (.bool (decide (k_1 = x_7))) w
set_option maxHeartbeats 1000000 in
set_option maxRecDepth 10000 in
theorem dom_Dom_out_1.ok (k_1 : Int) (x_2 : Addr) {R : Value → World → Prop} {w : World} (ht0 : dom_Dom_out_1.vc k_1 x_2 R w) : Calls Try.prog 82 #[.int .i64 k_1, .pointer (some x_2)] w (Ret R) := by
  refine enter [.int .i64 k_1, .pointer (some x_2)] Try.func82 rfl Try.ntmps82 rfl ?_
  intro a0 hA0
  unfold dom_Dom_out_1.vc at ht0
  refine wp_seq ?_
  refine wp_region_lit ?_
  refine sq (opk_val hA0 rfl (r_assign rfl) fun a3 hA3 _ => ?_)
  refine sq_end ?_
  have hA4 := hA3.keep [(0, .int .i64 k_1), (1, .pointer (some x_2))] ⟨rfl, rfl, trivial⟩
  refine then_normal ?_
  refine wp_seq ?_
  refine wp_region_lit ?_
  refine sq (opk_val hA4 rfl (r_move (hA4.get rfl)) fun a5 hA5 _ => ?_)
  obtain ⟨x_7, hx8, ht9⟩ := ht0
  refine sq (opk_val hA5 rfl (r_load1 Try.underlying3 rfl (hA5.get rfl) hx8) fun a6 hA6 _ => ?_)
  refine sq (opk_val hA6 rfl (r_eql (hA6.get rfl) (hA6.get rfl)) fun a10 hA10 _ => ?_)
  refine sq (opk_val hA10 rfl (r_assign (hA10.get rfl)) fun a11 hA11 _ => ?_)
  refine sq_end ?_
  have hA12 := hA11.keep [(3, .bool (decide (k_1 = x_7)))] ⟨rfl, trivial⟩
  refine then_normal ?_
  refine wp_ret ?_
  exact res_all (vs := [.bool (decide (k_1 = x_7))]) rfl hA12 ⟨res_of_tmp hA12 rfl, trivial⟩ ht9

end Go.Proofs.Ytghmgfkdnolcdaa
