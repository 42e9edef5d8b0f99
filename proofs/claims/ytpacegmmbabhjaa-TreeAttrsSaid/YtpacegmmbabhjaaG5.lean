/-
  PRINTED BY PROGRAM: for each function its condition (vc), and that this suffices (ok).
-/
import Derived.Test.YtpacegmmbabhjaaGT
namespace Go.Proofs.Ytpacegmmbabhjaa
open Go.RowKit
set_option linter.unusedVariables false

/-- The condition of topiary/tree.Size. -/
def tree_Size.vc (t_1_Kind : Int) (t_1_Name : Str) (t_1_Text : Str) (t_1_Attrs : Sl) (t_1_Kids : Sl) (R : Value → World → Prop) (w : World) : Prop :=
∀ (w3 : World) (B_2 : Nat), New w B_2 w3 → Chg [] w w3 →
∃ (J_22 : Int → Int → World → Prop) (mu_23 : Int → Int → World → Nat),
J_22 1 0 w3 ∧
(∀ (n_19 : Int) (x_20 : Int) (w21 : World), J_22 n_19 x_20 w21 →
((x_20 < (t_1_Kids.n : Int)) →
((0 : Int) ≤ x_20 ∧ x_20 < (t_1_Kids.n : Int)) ∧ ∃ p_86 : Addr, t_1_Kids.a = some p_86 ∧
∃ (x_92_Kind : Int) (x_92_Name : Str) (x_92_Text : Str) (x_92_Attrs : Sl) (x_92_Kids : Sl), (Cells w21 (p_86.add (x_20.toNat * 5)) [.int .i64 x_92_Kind, .string (Bs x_92_Name), .string (Bs x_92_Text), Sl.v x_92_Attrs, Sl.v x_92_Kids]) ∧
∀ (w103 : World) (B_95 : Nat), New w21 B_95 w103 → Chg [] w21 w103 →
CallK Try.prog 21 #[.agg #[.int .i64 x_92_Kind, .string (Bs x_92_Name), .string (Bs x_92_Text), Sl.v x_92_Attrs, Sl.v x_92_Kids]] w103 [B_95] (fun v w116 => ∃ (r_114 : Int), v = .int .i64 r_114 ∧
(I64 (n_19 + r_114)) ∧
(I64 (x_20 + 1)) ∧
J_22 (n_19 + r_114) (x_20 + 1) w116 ∧ mu_23 (n_19 + r_114) (x_20 + 1) w116 < mu_23 n_19 x_20 w21)) ∧
((¬ (x_20 < (t_1_Kids.n : Int))) →
R (.int .i64 n_19) w21))
set_option maxHeartbeats 1000000 in
set_option maxRecDepth 10000 in
theorem tree_Size.ok (t_1_Kind : Int) (t_1_Name : Str) (t_1_Text : Str) (t_1_Attrs : Sl) (t_1_Kids : Sl) {R : Value → World → Prop} {w : World} (ht0 : tree_Size.vc t_1_Kind t_1_Name t_1_Text t_1_Attrs t_1_Kids R w) : Calls Try.prog 21 #[.agg #[.int .i64 t_1_Kind, .string (Bs t_1_Name), .string (Bs t_1_Text), Sl.v t_1_Attrs, Sl.v t_1_Kids]] w (Ret R) := by
  refine enter [.agg #[.int .i64 t_1_Kind, .string (Bs t_1_Name), .string (Bs t_1_Text), Sl.v t_1_Attrs, Sl.v t_1_Kids]] Try.func21 rfl Try.ntmps21 rfl ?_
  intro a0 hA0
  unfold tree_Size.vc at ht0
  refine wp_seq ?_
  refine wp_region_lit ?_
  refine sq (opk_new (fun B => .pointer (some ⟨B, 0, none⟩)) hA0 rfl (r_box (cs := [.int .i64 t_1_Kind, .string (Bs t_1_Name), .string (Bs t_1_Text), Sl.v t_1_Attrs, Sl.v t_1_Kids]) (hA0.get rfl) rfl) fun a4 w3 B_2 hE5 hN6 hB7 hA4 _ => ?_)
  have hN8 : New w B_2 w3 := hN6
  have hC9 : Chg [] w w3 := hE5
  refine sq (opk_val hA4 rfl (r_assign rfl) fun a10 hA10 _ => ?_)
  refine sq_end ?_
  have hA11 := hA10.keep [(1, .pointer (some ⟨B_2, 0, none⟩))] ⟨rfl, trivial⟩
  refine then_normal ?_
  refine wp_seq ?_
  refine wp_region_lit ?_
  refine sq (opk_val hA11 rfl (r_assign rfl) fun a12 hA12 _ => ?_)
  refine sq_end ?_
  have hA13 := hA12.keep [(1, .pointer (some ⟨B_2, 0, none⟩)), (3, .int .i64 1)] ⟨rfl, rfl, trivial⟩
  refine then_normal ?_
  refine wp_seq ?_
  refine wp_seq ?_
  refine wp_region_lit ?_
  refine sq (opk_val hA13 rfl (r_fieldAddr (hA13.get rfl) Try.underlying26 rfl ti_24 (by decide)) fun a14 hA14 _ => ?_)
  refine sq (opk_val hA14 rfl (r_load1 Try.underlying24 rfl (hA14.get rfl) (hB7.cell 4 _ rfl)) fun a15 hA15 _ => ?_)
  refine sq (opk_val hA15 rfl (r_len (hA15.get rfl) Try.underlying24) fun a16 hA16 _ => ?_)
  refine sq (opk_val hA16 rfl (r_move rfl) fun a17 hA17 _ => ?_)
  refine sq_end ?_
  have hA18 := hA17.keep [(3, .int .i64 1), (7, Sl.v t_1_Kids), (8, .int .i64 (t_1_Kids.n : Int)), (9, .int .i64 0)] ⟨rfl, rfl, rfl, rfl, trivial⟩
  refine then_normal ?_
  refine wp_block ?_
  have ht76 := ht0 w3 B_2 hN8  hC9
  obtain ⟨J_22, mu_23, h079, ht78⟩ := ht76
  refine wp_loop_st (σ := Int × Int × World) (fun s a w => Ag 19 a [(3, .int .i64 s.1), (7, Sl.v t_1_Kids), (8, .int .i64 (t_1_Kids.n : Int)), (9, .int .i64 s.2.1)] ∧ w = s.2.2 ∧ J_22 s.1 s.2.1 s.2.2) (fun s => mu_23 s.1 s.2.1 s.2.2) (1, 0, w3) ⟨hA18.keep [(3, .int .i64 1), (7, Sl.v t_1_Kids), (8, .int .i64 (t_1_Kids.n : Int)), (9, .int .i64 0)] ⟨rfl, rfl, rfl, rfl, trivial⟩, rfl, h079⟩ ?_
  rintro ⟨n_19, x_20, w21⟩ a77 w_ ⟨hA77, hw_, hJ81⟩
  have hw_ : w21 = w_ := hw_.symm
  subst hw_
  have ht80 := ht78 n_19 x_20 _ hJ81
  refine wp_seq ?_
  refine wp_region_lit ?_
  refine sq (opk_val hA77 rfl (r_lss (hA77.get rfl) (hA77.get rfl)) fun a82 hA82 _ => ?_)
  refine sq_end ?_
  have hA83 := hA82.keep [(3, .int .i64 n_19), (7, Sl.v t_1_Kids), (8, .int .i64 (t_1_Kids.n : Int)), (9, .int .i64 x_20), (10, .bool (decide (x_20 < (t_1_Kids.n : Int))))] ⟨rfl, rfl, rfl, rfl, rfl, trivial⟩
  refine then_normal ?_
  refine wp_seq ?_
  refine wp_cond_split (hA83.get rfl) (fun hc => ?_) (fun hc => ?_)
  · have ht84 := ht80.1 (of_decide_eq_true hc)
    clear hc
    refine wp_skip ?_
    refine then_normal ?_
    refine wp_seq ?_
    refine wp_block ?_
    refine wp_seq ?_
    refine wp_region_lit ?_
    obtain ⟨hb87, p_86, hp88, ht89⟩ := ht84
    refine sq (opk_val hA83 rfl (r_indexAddr (hA83.get rfl) (hA83.get rfl) Try.underlying24 ti_26 hb87 hp88) fun a90 hA90 _ => ?_)
    obtain ⟨x_92_Kind, x_92_Name, x_92_Text, x_92_Attrs, x_92_Kids, hx93, ht94⟩ := ht89
    refine sq (opk_val hA90 rfl (r_loadN Try.underlying26 rfl ti_26 (hA90.get rfl) hx93) fun a91 hA91 _ => ?_)
    refine sq (opk_new (fun B => .pointer (some ⟨B, 0, none⟩)) hA91 rfl (r_alloc (cs := [.int .i64 0, .string (Bs ([] : Str)), .string (Bs ([] : Str)), Sl.v Sl.nil, Sl.v Sl.nil]) ti_26 rfl) fun a97 w96 B_95 hE98 hN99 hB100 hA97 _ => ?_)
    have hN101 : New w21 B_95 w96 := hN99
    have hC102 : Chg [] w21 w96 := hE98
    refine sq (opk_store hA97 hB100 (r_store (vs := [.int .i64 x_92_Kind, .string (Bs x_92_Name), .string (Bs x_92_Text), Sl.v x_92_Attrs, Sl.v x_92_Kids]) (hA97.get rfl) (hA97.get rfl) rfl ti_26 hB100 rfl (ones_all [.int .i64 x_92_Kind, .string (Bs x_92_Name), .string (Bs x_92_Text), Sl.v x_92_Attrs, Sl.v x_92_Kids] rfl)) fun a104 w103 hS105 hB106 hA104 => ?_)
    have hB107 : Box w103 B_95 26 [.int .i64 x_92_Kind, .string (Bs x_92_Name), .string (Bs x_92_Text), Sl.v x_92_Attrs, Sl.v x_92_Kids] := hB106
    have hC108 := hC102.storeNew hN101 hS105
    have hN109 := hN101.up hS105.size
    refine sq_end ?_
    have hA110 := hA104.keep [(3, .int .i64 n_19), (5, .pointer (some ⟨B_95, 0, none⟩)), (7, Sl.v t_1_Kids), (8, .int .i64 (t_1_Kids.n : Int)), (9, .int .i64 x_20)] ⟨rfl, rfl, rfl, rfl, rfl, trivial⟩
    refine then_normal ?_
    refine wp_region_lit ?_
    refine sq (opk_val hA110 rfl (r_move (hA110.get rfl)) fun a111 hA111 _ => ?_)
    refine sq (opk_val hA111 rfl (r_loadN (cs := [.int .i64 x_92_Kind, .string (Bs x_92_Name), .string (Bs x_92_Text), Sl.v x_92_Attrs, Sl.v x_92_Kids]) Try.underlying26 rfl ti_26 (hA111.get rfl) (hB107.part 0 _ rfl)) fun a112 hA112 _ => ?_)
    have ht113 := ht94 w103 B_95 hN109  hC108
    refine sq (opk_call hA112 rfl (r_call (args := #[.agg #[.int .i64 x_92_Kind, .string (Bs x_92_Name), .string (Bs x_92_Text), Sl.v x_92_Attrs, Sl.v x_92_Kids]]) Try.func21 (by decide) rfl (map_arr (ml_cons (hA112.get rfl) ml_nil)) rfl) ht113 fun a115 v121 w116 hA115 _ hn118 hz119 hK120 => ?_)
    obtain ⟨r_114, rfl, ht117⟩ := hK120
    have hB122 := hB107.kept hn118 (.head _)
    obtain ⟨hS124, ht125⟩ := ht117
    refine sq (opk_val hA115 rfl (r_addI (hA115.get rfl) (hA115.get rfl) hS124) fun a123 hA123 _ => ?_)
    refine sq (opk_val hA123 rfl (r_assign (hA123.get rfl)) fun a126 hA126 _ => ?_)
    refine sq_end ?_
    have hA127 := hA126.keep [(3, .int .i64 (n_19 + r_114)), (7, Sl.v t_1_Kids), (8, .int .i64 (t_1_Kids.n : Int)), (9, .int .i64 x_20)] ⟨rfl, rfl, rfl, rfl, trivial⟩
    refine block_normal ?_
    refine then_normal ?_
    refine wp_region_lit ?_
    obtain ⟨hS129, ht130⟩ := ht125
    refine sq (opk_val hA127 rfl (r_addI (hA127.get rfl) rfl hS129) fun a128 hA128 _ => ?_)
    refine sq (opk_val hA128 rfl (r_move (hA128.get rfl)) fun a131 hA131 _ => ?_)
    refine sq_end ?_
    have hA132 := hA131.keep [(3, .int .i64 (n_19 + r_114)), (7, Sl.v t_1_Kids), (8, .int .i64 (t_1_Kids.n : Int)), (9, .int .i64 (x_20 + 1))] ⟨rfl, rfl, rfl, rfl, trivial⟩
    have hA133 := hA132.keep [(3, .int .i64 (n_19 + r_114)), (7, Sl.v t_1_Kids), (8, .int .i64 (t_1_Kids.n : Int)), (9, .int .i64 (x_20 + 1))] ⟨rfl, rfl, rfl, rfl, trivial⟩
    exact then_normal ⟨(n_19 + r_114, x_20 + 1, w116), ⟨hA133, rfl, ht130.1⟩, ht130.2⟩
  · have ht85 := ht80.2 (of_decide_eq_false hc)
    clear hc
    refine wp_exit ?_
    refine then_exit ?_
    refine then_exit ?_
    refine block_hit ?_
    have hA134 := hA83.keep [(3, .int .i64 n_19)] ⟨rfl, trivial⟩
    refine then_normal ?_
    refine wp_seq ?_
    refine wp_region_lit ?_
    refine sq (opk_val hA134 rfl (r_move (hA134.get rfl)) fun a135 hA135 _ => ?_)
    refine sq (opk_val hA135 rfl (r_assign (hA135.get rfl)) fun a136 hA136 _ => ?_)
    refine sq_end ?_
    have hA137 := hA136.keep [(2, .int .i64 n_19)] ⟨rfl, trivial⟩
    refine then_normal ?_
    refine wp_ret ?_
    exact res_all (vs := [.int .i64 n_19]) rfl hA137 ⟨res_of_tmp hA137 rfl, trivial⟩ ht85

/-- The condition of topiary/tree.Slots. -/
def tree_Slots.vc (t_1_Kind : Int) (t_1_Name : Str) (t_1_Text : Str) (t_1_Attrs : Sl) (t_1_Kids : Sl) (R : Value → World → Prop) (w : World) : Prop :=
∀ (w3 : World) (B_2 : Nat), New w B_2 w3 → Chg [] w w3 →
∃ (J_25 : Int → Int → World → Prop) (mu_26 : Int → Int → World → Nat),
J_25 (t_1_Attrs.n : Int) 0 w3 ∧
(∀ (n_22 : Int) (x_23 : Int) (w24 : World), J_25 n_22 x_23 w24 →
((x_23 < (t_1_Kids.n : Int)) →
((0 : Int) ≤ x_23 ∧ x_23 < (t_1_Kids.n : Int)) ∧ ∃ p_89 : Addr, t_1_Kids.a = some p_89 ∧
∃ (x_95_Kind : Int) (x_95_Name : Str) (x_95_Text : Str) (x_95_Attrs : Sl) (x_95_Kids : Sl), (Cells w24 (p_89.add (x_23.toNat * 5)) [.int .i64 x_95_Kind, .string (Bs x_95_Name), .string (Bs x_95_Text), Sl.v x_95_Attrs, Sl.v x_95_Kids]) ∧
∀ (w106 : World) (B_98 : Nat), New w24 B_98 w106 → Chg [] w24 w106 →
CallK Try.prog 22 #[.agg #[.int .i64 x_95_Kind, .string (Bs x_95_Name), .string (Bs x_95_Text), Sl.v x_95_Attrs, Sl.v x_95_Kids]] w106 [B_98] (fun v w119 => ∃ (r_117 : Int), v = .int .i64 r_117 ∧
(I64 (n_22 + r_117)) ∧
(I64 (x_23 + 1)) ∧
J_25 (n_22 + r_117) (x_23 + 1) w119 ∧ mu_26 (n_22 + r_117) (x_23 + 1) w119 < mu_26 n_22 x_23 w24)) ∧
((¬ (x_23 < (t_1_Kids.n : Int))) →
R (.int .i64 n_22) w24))
set_option maxHeartbeats 1000000 in
set_option maxRecDepth 10000 in
theorem tree_Slots.ok (t_1_Kind : Int) (t_1_Name : Str) (t_1_Text : Str) (t_1_Attrs : Sl) (t_1_Kids : Sl) {R : Value → World → Prop} {w : World} (ht0 : tree_Slots.vc t_1_Kind t_1_Name t_1_Text t_1_Attrs t_1_Kids R w) : Calls Try.prog 22 #[.agg #[.int .i64 t_1_Kind, .string (Bs t_1_Name), .string (Bs t_1_Text), Sl.v t_1_Attrs, Sl.v t_1_Kids]] w (Ret R) := by
  refine enter [.agg #[.int .i64 t_1_Kind, .string (Bs t_1_Name), .string (Bs t_1_Text), Sl.v t_1_Attrs, Sl.v t_1_Kids]] Try.func22 rfl Try.ntmps22 rfl ?_
  intro a0 hA0
  unfold tree_Slots.vc at ht0
  refine wp_seq ?_
  refine wp_region_lit ?_
  refine sq (opk_new (fun B => .pointer (some ⟨B, 0, none⟩)) hA0 rfl (r_box (cs := [.int .i64 t_1_Kind, .string (Bs t_1_Name), .string (Bs t_1_Text), Sl.v t_1_Attrs, Sl.v t_1_Kids]) (hA0.get rfl) rfl) fun a4 w3 B_2 hE5 hN6 hB7 hA4 _ => ?_)
  have hN8 : New w B_2 w3 := hN6
  have hC9 : Chg [] w w3 := hE5
  refine sq (opk_val hA4 rfl (r_assign rfl) fun a10 hA10 _ => ?_)
  refine sq_end ?_
  have hA11 := hA10.keep [(1, .pointer (some ⟨B_2, 0, none⟩))] ⟨rfl, trivial⟩
  refine then_normal ?_
  refine wp_seq ?_
  refine wp_region_lit ?_
  refine sq (opk_val hA11 rfl (r_fieldAddr (hA11.get rfl) Try.underlying26 rfl ti_23 (by decide)) fun a12 hA12 _ => ?_)
  refine sq (opk_val hA12 rfl (r_load1 Try.underlying23 rfl (hA12.get rfl) (hB7.cell 3 _ rfl)) fun a13 hA13 _ => ?_)
  refine sq (opk_val hA13 rfl (r_len (hA13.get rfl) Try.underlying23) fun a14 hA14 _ => ?_)
  refine sq (opk_val hA14 rfl (r_assign (hA14.get rfl)) fun a15 hA15 _ => ?_)
  refine sq_end ?_
  have hA16 := hA15.keep [(1, .pointer (some ⟨B_2, 0, none⟩)), (3, .int .i64 (t_1_Attrs.n : Int))] ⟨rfl, rfl, trivial⟩
  refine then_normal ?_
  refine wp_seq ?_
  refine wp_seq ?_
  refine wp_region_lit ?_
  refine sq (opk_val hA16 rfl (r_fieldAddr (hA16.get rfl) Try.underlying26 rfl ti_24 (by decide)) fun a17 hA17 _ => ?_)
  refine sq (opk_val hA17 rfl (r_load1 Try.underlying24 rfl (hA17.get rfl) (hB7.cell 4 _ rfl)) fun a18 hA18 _ => ?_)
  refine sq (opk_val hA18 rfl (r_len (hA18.get rfl) Try.underlying24) fun a19 hA19 _ => ?_)
  refine sq (opk_val hA19 rfl (r_move rfl) fun a20 hA20 _ => ?_)
  refine sq_end ?_
  have hA21 := hA20.keep [(3, .int .i64 (t_1_Attrs.n : Int)), (10, Sl.v t_1_Kids), (11, .int .i64 (t_1_Kids.n : Int)), (12, .int .i64 0)] ⟨rfl, rfl, rfl, rfl, trivial⟩
  refine then_normal ?_
  refine wp_block ?_
  have ht79 := ht0 w3 B_2 hN8  hC9
  obtain ⟨J_25, mu_26, h082, ht81⟩ := ht79
  refine wp_loop_st (σ := Int × Int × World) (fun s a w => Ag 22 a [(3, .int .i64 s.1), (10, Sl.v t_1_Kids), (11, .int .i64 (t_1_Kids.n : Int)), (12, .int .i64 s.2.1)] ∧ w = s.2.2 ∧ J_25 s.1 s.2.1 s.2.2) (fun s => mu_26 s.1 s.2.1 s.2.2) ((t_1_Attrs.n : Int), 0, w3) ⟨hA21.keep [(3, .int .i64 (t_1_Attrs.n : Int)), (10, Sl.v t_1_Kids), (11, .int .i64 (t_1_Kids.n : Int)), (12, .int .i64 0)] ⟨rfl, rfl, rfl, rfl, trivial⟩, rfl, h082⟩ ?_
  rintro ⟨n_22, x_23, w24⟩ a80 w_ ⟨hA80, hw_, hJ84⟩
  have hw_ : w24 = w_ := hw_.symm
  subst hw_
  have ht83 := ht81 n_22 x_23 _ hJ84
  refine wp_seq ?_
  refine wp_region_lit ?_
  refine sq (opk_val hA80 rfl (r_lss (hA80.get rfl) (hA80.get rfl)) fun a85 hA85 _ => ?_)
  refine sq_end ?_
  have hA86 := hA85.keep [(3, .int .i64 n_22), (10, Sl.v t_1_Kids), (11, .int .i64 (t_1_Kids.n : Int)), (12, .int .i64 x_23), (13, .bool (decide (x_23 < (t_1_Kids.n : Int))))] ⟨rfl, rfl, rfl, rfl, rfl, trivial⟩
  refine then_normal ?_
  refine wp_seq ?_
  refine wp_cond_split (hA86.get rfl) (fun hc => ?_) (fun hc => ?_)
  · have ht87 := ht83.1 (of_decide_eq_true hc)
    clear hc
    refine wp_skip ?_
    refine then_normal ?_
    refine wp_seq ?_
    refine wp_block ?_
    refine wp_seq ?_
    refine wp_region_lit ?_
    obtain ⟨hb90, p_89, hp91, ht92⟩ := ht87
    refine sq (opk_val hA86 rfl (r_indexAddr (hA86.get rfl) (hA86.get rfl) Try.underlying24 ti_26 hb90 hp91) fun a93 hA93 _ => ?_)
    obtain ⟨x_95_Kind, x_95_Name, x_95_Text, x_95_Attrs, x_95_Kids, hx96, ht97⟩ := ht92
    refine sq (opk_val hA93 rfl (r_loadN Try.underlying26 rfl ti_26 (hA93.get rfl) hx96) fun a94 hA94 _ => ?_)
    refine sq (opk_new (fun B => .pointer (some ⟨B, 0, none⟩)) hA94 rfl (r_alloc (cs := [.int .i64 0, .string (Bs ([] : Str)), .string (Bs ([] : Str)), Sl.v Sl.nil, Sl.v Sl.nil]) ti_26 rfl) fun a100 w99 B_98 hE101 hN102 hB103 hA100 _ => ?_)
    have hN104 : New w24 B_98 w99 := hN102
    have hC105 : Chg [] w24 w99 := hE101
    refine sq (opk_store hA100 hB103 (r_store (vs := [.int .i64 x_95_Kind, .string (Bs x_95_Name), .string (Bs x_95_Text), Sl.v x_95_Attrs, Sl.v x_95_Kids]) (hA100.get rfl) (hA100.get rfl) rfl ti_26 hB103 rfl (ones_all [.int .i64 x_95_Kind, .string (Bs x_95_Name), .string (Bs x_95_Text), Sl.v x_95_Attrs, Sl.v x_95_Kids] rfl)) fun a107 w106 hS108 hB109 hA107 => ?_)
    have hB110 : Box w106 B_98 26 [.int .i64 x_95_Kind, .string (Bs x_95_Name), .string (Bs x_95_Text), Sl.v x_95_Attrs, Sl.v x_95_Kids] := hB109
    have hC111 := hC105.storeNew hN104 hS108
    have hN112 := hN104.up hS108.size
    refine sq_end ?_
    have hA113 := hA107.keep [(3, .int .i64 n_22), (5, .pointer (some ⟨B_98, 0, none⟩)), (10, Sl.v t_1_Kids), (11, .int .i64 (t_1_Kids.n : Int)), (12, .int .i64 x_23)] ⟨rfl, rfl, rfl, rfl, rfl, trivial⟩
    refine then_normal ?_
    refine wp_region_lit ?_
    refine sq (opk_val hA113 rfl (r_move (hA113.get rfl)) fun a114 hA114 _ => ?_)
    refine sq (opk_val hA114 rfl (r_loadN (cs := [.int .i64 x_95_Kind, .string (Bs x_95_Name), .string (Bs x_95_Text), Sl.v x_95_Attrs, Sl.v x_95_Kids]) Try.underlying26 rfl ti_26 (hA114.get rfl) (hB110.part 0 _ rfl)) fun a115 hA115 _ => ?_)
    have ht116 := ht97 w106 B_98 hN112  hC111
    refine sq (opk_call hA115 rfl (r_call (args := #[.agg #[.int .i64 x_95_Kind, .string (Bs x_95_Name), .string (Bs x_95_Text), Sl.v x_95_Attrs, Sl.v x_95_Kids]]) Try.func22 (by decide) rfl (map_arr (ml_cons (hA115.get rfl) ml_nil)) rfl) ht116 fun a118 v124 w119 hA118 _ hn121 hz122 hK123 => ?_)
    obtain ⟨r_117, rfl, ht120⟩ := hK123
    have hB125 := hB110.kept hn121 (.head _)
    obtain ⟨hS127, ht128⟩ := ht120
    refine sq (opk_val hA118 rfl (r_addI (hA118.get rfl) (hA118.get rfl) hS127) fun a126 hA126 _ => ?_)
    refine sq (opk_val hA126 rfl (r_assign (hA126.get rfl)) fun a129 hA129 _ => ?_)
    refine sq_end ?_
    have hA130 := hA129.keep [(3, .int .i64 (n_22 + r_117)), (10, Sl.v t_1_Kids), (11, .int .i64 (t_1_Kids.n : Int)), (12, .int .i64 x_23)] ⟨rfl, rfl, rfl, rfl, trivial⟩
    refine block_normal ?_
    refine then_normal ?_
    refine wp_region_lit ?_
    obtain ⟨hS132, ht133⟩ := ht128
    refine sq (opk_val hA130 rfl (r_addI (hA130.get rfl) rfl hS132) fun a131 hA131 _ => ?_)
    refine sq (opk_val hA131 rfl (r_move (hA131.get rfl)) fun a134 hA134 _ => ?_)
    refine sq_end ?_
    have hA135 := hA134.keep [(3, .int .i64 (n_22 + r_117)), (10, Sl.v t_1_Kids), (11, .int .i64 (t_1_Kids.n : Int)), (12, .int .i64 (x_23 + 1))] ⟨rfl, rfl, rfl, rfl, trivial⟩
    have hA136 := hA135.keep [(3, .int .i64 (n_22 + r_117)), (10, Sl.v t_1_Kids), (11, .int .i64 (t_1_Kids.n : Int)), (12, .int .i64 (x_23 + 1))] ⟨rfl, rfl, rfl, rfl, trivial⟩
    exact then_normal ⟨(n_22 + r_117, x_23 + 1, w119), ⟨hA136, rfl, ht133.1⟩, ht133.2⟩
  · have ht88 := ht83.2 (of_decide_eq_false hc)
    clear hc
    refine wp_exit ?_
    refine then_exit ?_
    refine then_exit ?_
    refine block_hit ?_
    have hA137 := hA86.keep [(3, .int .i64 n_22)] ⟨rfl, trivial⟩
    refine then_normal ?_
    refine wp_seq ?_
    refine wp_region_lit ?_
    refine sq (opk_val hA137 rfl (r_move (hA137.get rfl)) fun a138 hA138 _ => ?_)
    refine sq (opk_val hA138 rfl (r_assign (hA138.get rfl)) fun a139 hA139 _ => ?_)
    refine sq_end ?_
    have hA140 := hA139.keep [(2, .int .i64 n_22)] ⟨rfl, trivial⟩
    refine then_normal ?_
    refine wp_ret ?_
    exact res_all (vs := [.int .i64 n_22]) rfl hA140 ⟨res_of_tmp hA140 rfl, trivial⟩ ht88

/-- The condition of topiary/tree.Attr. -/
def tree_Attr.vc (t_1_Kind : Int) (t_1_Name : Str) (t_1_Text : Str) (t_1_Attrs : Sl) (t_1_Kids : Sl) (name_2 : Str) (R : Value → World → Prop) (w : World) : Prop :=
∀ (w4 : World) (B_3 : Nat), New w B_3 w4 → Chg [] w w4 →
∃ (J_21 : Int → World → Prop) (mu_22 : Int → World → Nat),
J_21 0 w4 ∧
(∀ (x_19 : Int) (w20 : World), J_21 x_19 w20 →
((x_19 < (t_1_Attrs.n : Int)) →
((0 : Int) ≤ x_19 ∧ x_19 < (t_1_Attrs.n : Int)) ∧ ∃ p_80 : Addr, t_1_Attrs.a = some p_80 ∧
∃ (x_86_Name : Str) (x_86_Value : Str), (Cells w20 (p_80.add (x_19.toNat * 2)) [.string (Bs x_86_Name), .string (Bs x_86_Value)]) ∧
((x_86_Name = name_2) →
∀ (w97 : World) (B_89 : Nat), New w20 B_89 w97 → Chg [] w20 w97 →
R (.tuple #[.string (Bs x_86_Value), .bool true]) w97) ∧
((¬ (x_86_Name = name_2)) →
(I64 (x_19 + 1)) ∧
∀ (w97 : World) (B_89 : Nat), New w20 B_89 w97 → Chg [] w20 w97 →
J_21 (x_19 + 1) w97 ∧ mu_22 (x_19 + 1) w97 < mu_22 x_19 w20)) ∧
((¬ (x_19 < (t_1_Attrs.n : Int))) →
R (.tuple #[.string (Bs ([] : Str)), .bool false]) w20))
set_option maxHeartbeats 1000000 in
set_option maxRecDepth 10000 in
theorem tree_Attr.ok (t_1_Kind : Int) (t_1_Name : Str) (t_1_Text : Str) (t_1_Attrs : Sl) (t_1_Kids : Sl) (name_2 : Str) {R : Value → World → Prop} {w : World} (ht0 : tree_Attr.vc t_1_Kind t_1_Name t_1_Text t_1_Attrs t_1_Kids name_2 R w) : Calls Try.prog 23 #[.agg #[.int .i64 t_1_Kind, .string (Bs t_1_Name), .string (Bs t_1_Text), Sl.v t_1_Attrs, Sl.v t_1_Kids], .string (Bs name_2)] w (Ret R) := by
  refine enter [.agg #[.int .i64 t_1_Kind, .string (Bs t_1_Name), .string (Bs t_1_Text), Sl.v t_1_Attrs, Sl.v t_1_Kids], .string (Bs name_2)] Try.func23 rfl Try.ntmps23 rfl ?_
  intro a0 hA0
  unfold tree_Attr.vc at ht0
  refine wp_seq ?_
  refine wp_region_lit ?_
  refine sq (opk_new (fun B => .pointer (some ⟨B, 0, none⟩)) hA0 rfl (r_box (cs := [.int .i64 t_1_Kind, .string (Bs t_1_Name), .string (Bs t_1_Text), Sl.v t_1_Attrs, Sl.v t_1_Kids]) (hA0.get rfl) rfl) fun a5 w4 B_3 hE6 hN7 hB8 hA5 _ => ?_)
  have hN9 : New w B_3 w4 := hN7
  have hC10 : Chg [] w w4 := hE6
  refine sq (opk_val hA5 rfl (r_assign rfl) fun a11 hA11 _ => ?_)
  refine sq (opk_val hA11 rfl (r_assign rfl) fun a12 hA12 _ => ?_)
  refine sq_end ?_
  have hA13 := hA12.keep [(1, .string (Bs name_2)), (2, .pointer (some ⟨B_3, 0, none⟩))] ⟨rfl, rfl, trivial⟩
  refine then_normal ?_
  refine wp_seq ?_
  refine wp_seq ?_
  refine wp_region_lit ?_
  refine sq (opk_val hA13 rfl (r_fieldAddr (hA13.get rfl) Try.underlying26 rfl ti_23 (by decide)) fun a14 hA14 _ => ?_)
  refine sq (opk_val hA14 rfl (r_load1 Try.underlying23 rfl (hA14.get rfl) (hB8.cell 3 _ rfl)) fun a15 hA15 _ => ?_)
  refine sq (opk_val hA15 rfl (r_len (hA15.get rfl) Try.underlying23) fun a16 hA16 _ => ?_)
  refine sq (opk_val hA16 rfl (r_move rfl) fun a17 hA17 _ => ?_)
  refine sq_end ?_
  have hA18 := hA17.keep [(1, .string (Bs name_2)), (9, Sl.v t_1_Attrs), (10, .int .i64 (t_1_Attrs.n : Int)), (11, .int .i64 0)] ⟨rfl, rfl, rfl, rfl, trivial⟩
  refine then_normal ?_
  refine wp_block ?_
  have ht70 := ht0 w4 B_3 hN9  hC10
  obtain ⟨J_21, mu_22, h073, ht72⟩ := ht70
  refine wp_loop_st (σ := Int × World) (fun s a w => Ag 22 a [(1, .string (Bs name_2)), (9, Sl.v t_1_Attrs), (10, .int .i64 (t_1_Attrs.n : Int)), (11, .int .i64 s.1)] ∧ w = s.2 ∧ J_21 s.1 s.2) (fun s => mu_22 s.1 s.2) (0, w4) ⟨hA18.keep [(1, .string (Bs name_2)), (9, Sl.v t_1_Attrs), (10, .int .i64 (t_1_Attrs.n : Int)), (11, .int .i64 0)] ⟨rfl, rfl, rfl, rfl, trivial⟩, rfl, h073⟩ ?_
  rintro ⟨x_19, w20⟩ a71 w_ ⟨hA71, hw_, hJ75⟩
  have hw_ : w20 = w_ := hw_.symm
  subst hw_
  have ht74 := ht72 x_19 _ hJ75
  refine wp_seq ?_
  refine wp_region_lit ?_
  refine sq (opk_val hA71 rfl (r_lss (hA71.get rfl) (hA71.get rfl)) fun a76 hA76 _ => ?_)
  refine sq_end ?_
  have hA77 := hA76.keep [(1, .string (Bs name_2)), (9, Sl.v t_1_Attrs), (10, .int .i64 (t_1_Attrs.n : Int)), (11, .int .i64 x_19), (12, .bool (decide (x_19 < (t_1_Attrs.n : Int))))] ⟨rfl, rfl, rfl, rfl, rfl, trivial⟩
  refine then_normal ?_
  refine wp_seq ?_
  refine wp_cond_split (hA77.get rfl) (fun hc => ?_) (fun hc => ?_)
  · have ht78 := ht74.1 (of_decide_eq_true hc)
    clear hc
    refine wp_skip ?_
    refine then_normal ?_
    refine wp_seq ?_
    refine wp_block ?_
    refine wp_seq ?_
    refine wp_region_lit ?_
    obtain ⟨hb81, p_80, hp82, ht83⟩ := ht78
    refine sq (opk_val hA77 rfl (r_indexAddr (hA77.get rfl) (hA77.get rfl) Try.underlying23 ti_33 hb81 hp82) fun a84 hA84 _ => ?_)
    obtain ⟨x_86_Name, x_86_Value, hx87, ht88⟩ := ht83
    refine sq (opk_val hA84 rfl (r_loadN Try.underlying33 rfl ti_33 (hA84.get rfl) hx87) fun a85 hA85 _ => ?_)
    refine sq (opk_new (fun B => .pointer (some ⟨B, 0, none⟩)) hA85 rfl (r_alloc (cs := [.string (Bs ([] : Str)), .string (Bs ([] : Str))]) ti_33 rfl) fun a91 w90 B_89 hE92 hN93 hB94 hA91 _ => ?_)
    have hN95 : New w20 B_89 w90 := hN93
    have hC96 : Chg [] w20 w90 := hE92
    refine sq (opk_store hA91 hB94 (r_store (vs := [.string (Bs x_86_Name), .string (Bs x_86_Value)]) (hA91.get rfl) (hA91.get rfl) rfl ti_33 hB94 rfl (ones_all [.string (Bs x_86_Name), .string (Bs x_86_Value)] rfl)) fun a98 w97 hS99 hB100 hA98 => ?_)
    have hB101 : Box w97 B_89 33 [.string (Bs x_86_Name), .string (Bs x_86_Value)] := hB100
    have hC102 := hC96.storeNew hN95 hS99
    have hN103 := hN95.up hS99.size
    refine sq_end ?_
    have hA104 := hA98.keep [(1, .string (Bs name_2)), (7, .pointer (some ⟨B_89, 0, none⟩)), (9, Sl.v t_1_Attrs), (10, .int .i64 (t_1_Attrs.n : Int)), (11, .int .i64 x_19)] ⟨rfl, rfl, rfl, rfl, rfl, trivial⟩
    refine then_normal ?_
    refine wp_seq ?_
    refine wp_region_lit ?_
    refine sq (opk_val hA104 rfl (r_fieldAddr (hA104.get rfl) Try.underlying33 rfl ti_9 (by decide)) fun a105 hA105 _ => ?_)
    refine sq (opk_val hA105 rfl (r_load1 Try.underlying9 rfl (hA105.get rfl) (hB101.cell 0 _ rfl)) fun a106 hA106 _ => ?_)
    refine sq (opk_val hA106 rfl (r_move (hA106.get rfl)) fun a107 hA107 _ => ?_)
    refine sq (opk_val hA107 rfl (r_seql (hA107.get rfl) (hA107.get rfl)) fun a108 hA108 _ => ?_)
    refine sq_end ?_
    have hA109 := hA108.keep [(1, .string (Bs name_2)), (7, .pointer (some ⟨B_89, 0, none⟩)), (9, Sl.v t_1_Attrs), (10, .int .i64 (t_1_Attrs.n : Int)), (11, .int .i64 x_19), (18, .bool (decide (x_86_Name = name_2)))] ⟨rfl, rfl, rfl, rfl, rfl, rfl, trivial⟩
    refine then_normal ?_
    refine wp_cond_split (hA109.get rfl) (fun hc => ?_) (fun hc => ?_)
    · have ht110 := ht88.1 (of_decide_eq_true hc)
      clear hc
      refine wp_seq ?_
      refine wp_region_lit ?_
      refine sq (opk_val hA109 rfl (r_fieldAddr (hA109.get rfl) Try.underlying33 rfl ti_9 (by decide)) fun a112 hA112 _ => ?_)
      refine sq (opk_val hA112 rfl (r_load1 Try.underlying9 rfl (hA112.get rfl) (hB101.cell 1 _ rfl)) fun a113 hA113 _ => ?_)
      refine sq (opk_val hA113 rfl (r_assign (hA113.get rfl)) fun a114 hA114 _ => ?_)
      refine sq (opk_val hA114 rfl (r_assign rfl) fun a115 hA115 _ => ?_)
      refine sq_end ?_
      have hA116 := hA115.keep [(4, .string (Bs x_86_Value)), (5, .bool true)] ⟨rfl, rfl, trivial⟩
      refine then_normal ?_
      refine wp_ret ?_
      refine block_ret ?_
      refine then_ret ?_
      refine then_ret ?_
      refine block_ret ?_
      refine then_ret ?_
      have ht117 := ht110 w97 B_89 hN103  hC102
      exact res_all (vs := [.string (Bs x_86_Value), .bool true]) rfl hA116 ⟨res_of_tmp hA116 rfl, res_of_tmp hA116 rfl, trivial⟩ ht117
    · have ht111 := ht88.2 (of_decide_eq_false hc)
      clear hc
      refine wp_skip ?_
      refine block_normal ?_
      refine then_normal ?_
      refine wp_region_lit ?_
      obtain ⟨hS119, ht120⟩ := ht111
      refine sq (opk_val hA109 rfl (r_addI (hA109.get rfl) rfl hS119) fun a118 hA118 _ => ?_)
      refine sq (opk_val hA118 rfl (r_move (hA118.get rfl)) fun a121 hA121 _ => ?_)
      refine sq_end ?_
      have hA122 := hA121.keep [(1, .string (Bs name_2)), (9, Sl.v t_1_Attrs), (10, .int .i64 (t_1_Attrs.n : Int)), (11, .int .i64 (x_19 + 1))] ⟨rfl, rfl, rfl, rfl, trivial⟩
      have ht123 := ht120 w97 B_89 hN103  hC102
      have hA124 := hA122.keep [(1, .string (Bs name_2)), (9, Sl.v t_1_Attrs), (10, .int .i64 (t_1_Attrs.n : Int)), (11, .int .i64 (x_19 + 1))] ⟨rfl, rfl, rfl, rfl, trivial⟩
      exact then_normal ⟨(x_19 + 1, w97), ⟨hA124, rfl, ht123.1⟩, ht123.2⟩
  · have ht79 := ht74.2 (of_decide_eq_false hc)
    clear hc
    refine wp_exit ?_
    refine then_exit ?_
    refine then_exit ?_
    refine block_hit ?_
    have hA125 := hA77.keep [] trivial
    refine then_normal ?_
    refine wp_seq ?_
    refine wp_region_lit ?_
    refine sq (opk_val hA125 rfl (r_assign rfl) fun a126 hA126 _ => ?_)
    refine sq (opk_val hA126 rfl (r_assign rfl) fun a127 hA127 _ => ?_)
    refine sq_end ?_
    have hA128 := hA127.keep [(4, .string (Bs ([] : Str))), (5, .bool false)] ⟨rfl, rfl, trivial⟩
    refine then_normal ?_
    refine wp_ret ?_
    exact res_all (vs := [.string (Bs ([] : Str)), .bool false]) rfl hA128 ⟨res_of_tmp hA128 rfl, res_of_tmp hA128 rfl, trivial⟩ ht79

/-- The condition of topiary/tree.Compare. -/
def tree_Compare.vc (a_1_Kind : Int) (a_1_Name : Str) (a_1_Text : Str) (a_1_Attrs : Sl) (a_1_Kids : Sl) (b_2_Kind : Int) (b_2_Name : Str) (b_2_Text : Str) (b_2_Attrs : Sl) (b_2_Kids : Sl) (R : Value → World → Prop) (w : World) : Prop :=
∀ (w24 : World) (B_3 : Nat) (B_11 : Nat), New w B_3 w24 → New w B_11 w24 → B_3 ≠ B_11 → Chg [] w w24 →
∃ (r_36 : Int), (∀ w' : World, Ext w24 w' → Calls Try.prog 41 #[.int .i64 a_1_Kind, .int .i64 b_2_Kind] w' (Ret fun v w'' => Ext w' w'' ∧ v = .int .i64 r_36)) ∧
∃ (r_43 : Int), (∀ w' : World, Ext w24 w' → Calls Try.prog 42 #[.string (Bs a_1_Name), .string (Bs b_2_Name)] w' (Ret fun v w'' => Ext w' w'' ∧ v = .int .i64 r_43)) ∧
∃ (r_50 : Int), (∀ w' : World, Ext w24 w' → Calls Try.prog 42 #[.string (Bs a_1_Text), .string (Bs b_2_Text)] w' (Ret fun v w'' => Ext w' w'' ∧ v = .int .i64 r_50)) ∧
∃ (r_64 : Int), (∀ B_56 : Nat, ∀ w' : World, Ext w24 w' → w24.heap.size ≤ B_56 → Box w' B_56 3 [.int .i64 r_36, .int .i64 r_43, .int .i64 r_50] → Calls Try.prog 40 #[Sl.v (Sl.mk (some ⟨B_56, 0, none⟩) 3 3)] w' (Ret fun v w'' => Ext w' w'' ∧ v = .int .i64 r_64)) ∧
∀ (w69 : World), Chg [] w24 w69 →
∃ (J_85 : Int → Int → World → Prop) (mu_86 : Int → Int → World → Nat),
J_85 r_64 0 w69 ∧
(∀ (x_82 : Int) (i_83 : Int) (w84 : World), J_85 x_82 i_83 w84 →
((((x_82 = 0) ∧ (i_83 < (a_1_Attrs.n : Int))) ∧ (i_83 < (b_2_Attrs.n : Int))) →
∀ (w228 : World), Chg [] w84 w228 →
∃ p_237 : Addr, (((0 : Int) ≤ i_83 ∧ i_83 < (a_1_Attrs.n : Int)) ∧ a_1_Attrs.a = some p_237) ∧
∃ (x_242 : Str), (w228.cell? ((p_237.add (i_83.toNat * 2)).add 0) = some (.string (Bs x_242))) ∧
∃ p_248 : Addr, (((0 : Int) ≤ i_83 ∧ i_83 < (b_2_Attrs.n : Int)) ∧ b_2_Attrs.a = some p_248) ∧
∃ (x_253 : Str), (w228.cell? ((p_248.add (i_83.toNat * 2)).add 0) = some (.string (Bs x_253))) ∧
∃ (r_258 : Int), (∀ w' : World, Ext w228 w' → Calls Try.prog 42 #[.string (Bs x_242), .string (Bs x_253)] w' (Ret fun v w'' => Ext w' w'' ∧ v = .int .i64 r_258)) ∧
∃ p_264 : Addr, (((0 : Int) ≤ i_83 ∧ i_83 < (a_1_Attrs.n : Int)) ∧ a_1_Attrs.a = some p_264) ∧
∃ (x_269 : Str), (w228.cell? ((p_264.add (i_83.toNat * 2)).add 1) = some (.string (Bs x_269))) ∧
∃ p_275 : Addr, (((0 : Int) ≤ i_83 ∧ i_83 < (b_2_Attrs.n : Int)) ∧ b_2_Attrs.a = some p_275) ∧
∃ (x_280 : Str), (w228.cell? ((p_275.add (i_83.toNat * 2)).add 1) = some (.string (Bs x_280))) ∧
∃ (r_285 : Int), (∀ w' : World, Ext w228 w' → Calls Try.prog 42 #[.string (Bs x_269), .string (Bs x_280)] w' (Ret fun v w'' => Ext w' w'' ∧ v = .int .i64 r_285)) ∧
∃ (r_298 : Int), (∀ B_290 : Nat, ∀ w' : World, Ext w228 w' → w228.heap.size ≤ B_290 → Box w' B_290 3 [.int .i64 r_258, .int .i64 r_285] → Calls Try.prog 40 #[Sl.v (Sl.mk (some ⟨B_290, 0, none⟩) 2 2)] w' (Ret fun v w'' => Ext w' w'' ∧ v = .int .i64 r_298)) ∧
(I64 (i_83 + 1)) ∧
∀ (w303 : World), Chg [] w228 w303 →
J_85 r_298 (i_83 + 1) w303 ∧ mu_86 r_298 (i_83 + 1) w303 < mu_86 x_82 i_83 w84) ∧
((((¬ (x_82 = 0)) ∨ (¬ (i_83 < (a_1_Attrs.n : Int)))) ∨ (¬ (i_83 < (b_2_Attrs.n : Int)))) →
CallK Try.prog 41 #[.int .i64 (a_1_Attrs.n : Int), .int .i64 (b_2_Attrs.n : Int)] w84 [B_3, B_11] (fun v w332 => ∃ (r_330 : Int), v = .int .i64 r_330 ∧
∀ (w341 : World) (B_340 : Nat), New w332 B_340 w341 → Chg [] w332 w341 →
∀ (_ : Box w341 B_340 3 [.int .i64 x_82, .int .i64 r_330]),
CallK Try.prog 40 #[Sl.v (Sl.mk (some ⟨B_340, 0, none⟩) 2 2)] w341 [B_3, B_11] (fun v w356 => ∃ (r_354 : Int), v = .int .i64 r_354 ∧
∃ (J_371 : Int → Int → World → Prop) (mu_372 : Int → Int → World → Nat),
J_371 r_354 0 w356 ∧
(∀ (x_368 : Int) (i_369 : Int) (w370 : World), J_371 x_368 i_369 w370 →
((((x_368 = 0) ∧ (i_369 < (a_1_Kids.n : Int))) ∧ (i_369 < (b_2_Kids.n : Int))) →
∀ (w471 : World), Chg [] w370 w471 →
∃ p_480 : Addr, (((0 : Int) ≤ i_369 ∧ i_369 < (a_1_Kids.n : Int)) ∧ a_1_Kids.a = some p_480) ∧
∃ (x_484_Kind : Int) (x_484_Name : Str) (x_484_Text : Str) (x_484_Attrs : Sl) (x_484_Kids : Sl), (Cells w471 (p_480.add (i_369.toNat * 5)) [.int .i64 x_484_Kind, .string (Bs x_484_Name), .string (Bs x_484_Text), Sl.v x_484_Attrs, Sl.v x_484_Kids]) ∧
∃ p_490 : Addr, (((0 : Int) ≤ i_369 ∧ i_369 < (b_2_Kids.n : Int)) ∧ b_2_Kids.a = some p_490) ∧
∃ (x_494_Kind : Int) (x_494_Name : Str) (x_494_Text : Str) (x_494_Attrs : Sl) (x_494_Kids : Sl), (Cells w471 (p_490.add (i_369.toNat * 5)) [.int .i64 x_494_Kind, .string (Bs x_494_Name), .string (Bs x_494_Text), Sl.v x_494_Attrs, Sl.v x_494_Kids]) ∧
∃ (r_499 : Int), (∀ w' : World, Ext w471 w' → Calls Try.prog 24 #[.agg #[.int .i64 x_484_Kind, .string (Bs x_484_Name), .string (Bs x_484_Text), Sl.v x_484_Attrs, Sl.v x_484_Kids], .agg #[.int .i64 x_494_Kind, .string (Bs x_494_Name), .string (Bs x_494_Text), Sl.v x_494_Attrs, Sl.v x_494_Kids]] w' (Ret fun v w'' => Ext w' w'' ∧ v = .int .i64 r_499)) ∧
(I64 (i_369 + 1)) ∧
∀ (w504 : World), Chg [] w471 w504 →
J_371 r_499 (i_369 + 1) w504 ∧ mu_372 r_499 (i_369 + 1) w504 < mu_372 x_368 i_369 w370) ∧
((((¬ (x_368 = 0)) ∨ (¬ (i_369 < (a_1_Kids.n : Int)))) ∨ (¬ (i_369 < (b_2_Kids.n : Int)))) →
CallK Try.prog 41 #[.int .i64 (a_1_Kids.n : Int), .int .i64 (b_2_Kids.n : Int)] w370 [B_3, B_11] (fun v w533 => ∃ (r_531 : Int), v = .int .i64 r_531 ∧
∀ (w542 : World) (B_541 : Nat), New w533 B_541 w542 → Chg [] w533 w542 →
∀ (_ : Box w542 B_541 3 [.int .i64 x_368, .int .i64 r_531]),
CallK Try.prog 40 #[Sl.v (Sl.mk (some ⟨B_541, 0, none⟩) 2 2)] w542 [B_3, B_11] (fun v w557 => ∃ (r_555 : Int), v = .int .i64 r_555 ∧
R (.int .i64 r_555) w557))))))))
set_option maxHeartbeats 1000000 in
set_option maxRecDepth 10000 in
theorem tree_Compare.ok (a_1_Kind : Int) (a_1_Name : Str) (a_1_Text : Str) (a_1_Attrs : Sl) (a_1_Kids : Sl) (b_2_Kind : Int) (b_2_Name : Str) (b_2_Text : Str) (b_2_Attrs : Sl) (b_2_Kids : Sl) {R : Value → World → Prop} {w : World} (ht0 : tree_Compare.vc a_1_Kind a_1_Name a_1_Text a_1_Attrs a_1_Kids b_2_Kind b_2_Name b_2_Text b_2_Attrs b_2_Kids R w) : Calls Try.prog 24 #[.agg #[.int .i64 a_1_Kind, .string (Bs a_1_Name), .string (Bs a_1_Text), Sl.v a_1_Attrs, Sl.v a_1_Kids], .agg #[.int .i64 b_2_Kind, .string (Bs b_2_Name), .string (Bs b_2_Text), Sl.v b_2_Attrs, Sl.v b_2_Kids]] w (Ret R) := by
  refine enter [.agg #[.int .i64 a_1_Kind, .string (Bs a_1_Name), .string (Bs a_1_Text), Sl.v a_1_Attrs, Sl.v a_1_Kids], .agg #[.int .i64 b_2_Kind, .string (Bs b_2_Name), .string (Bs b_2_Text), Sl.v b_2_Attrs, Sl.v b_2_Kids]] Try.func24 rfl Try.ntmps24 rfl ?_
  intro a0 hA0
  unfold tree_Compare.vc at ht0
  refine wp_seq ?_
  refine wp_region_lit ?_
  refine sq (opk_new (fun B => .pointer (some ⟨B, 0, none⟩)) hA0 rfl (r_box (cs := [.int .i64 a_1_Kind, .string (Bs a_1_Name), .string (Bs a_1_Text), Sl.v a_1_Attrs, Sl.v a_1_Kids]) (hA0.get rfl) rfl) fun a5 w4 B_3 hE6 hN7 hB8 hA5 _ => ?_)
  have hN9 : New w B_3 w4 := hN7
  have hC10 : Chg [] w w4 := hE6
  refine sq (opk_new (fun B => .pointer (some ⟨B, 0, none⟩)) hA5 rfl (r_box (cs := [.int .i64 b_2_Kind, .string (Bs b_2_Name), .string (Bs b_2_Text), Sl.v b_2_Attrs, Sl.v b_2_Kids]) (hA5.get rfl) rfl) fun a13 w12 B_11 hE14 hN15 hB16 hA13 _ => ?_)
  have hne17 : B_3 ≠ B_11 := Nat.ne_of_lt (Nat.lt_of_lt_of_le hB8.lt hN15.ge)
  have hN18 := New.of hC10 hN15
  have hB19 := hB8.ext hE14
  have hC20 := hC10.more hE14
  have hN21 := hN9.up hE14.size
  refine sq (opk_val hA13 rfl (r_assign rfl) fun a22 hA22 _ => ?_)
  refine sq_end ?_
  have hA23 := hA22.keep [(2, .pointer (some ⟨B_3, 0, none⟩)), (3, .pointer (some ⟨B_11, 0, none⟩))] ⟨rfl, rfl, trivial⟩
  refine then_normal ?_
  refine wp_seq ?_
  refine draw' (by kernel_rfl) fun w24 hE25 => ?_
  have hB26 := hB19.ext hE25
  have hB27 := hB16.ext hE25
  have hC28 := hC20.more hE25
  have hN29 := hN21.up hE25.size
  have hN30 := hN18.up hE25.size
  have ht31 := ht0 w24 B_3 B_11 hN29 hN30 hne17 hC28
  obtain ⟨r_36, hc37, ht38⟩ := ht31
  obtain ⟨r_43, hc44, ht45⟩ := ht38
  obtain ⟨r_50, hc51, ht52⟩ := ht45
  obtain ⟨r_64, hc65, ht66⟩ := ht52
  refine par (D := [[], [0], [], [2], [0, 1, 2, 3], [], [5], [], [7], [0, 1, 2, 3, 4, 5, 6, 7, 8], [], [10], [], [12], [0, 1, 2, 3, 4, 5, 6, 7, 8, 9, 10, 11, 12, 13], [0, 1, 2, 3, 4, 5, 6, 7, 8, 9, 10, 11, 12, 13, 14], [0, 1, 2, 3, 4, 5, 6, 7, 8, 9, 10, 11, 12, 13, 14, 15], [0, 1, 2, 3, 4, 5, 6, 7, 8, 9, 10, 11, 12, 13, 14, 15, 16]]) (S := [0, 1, 2, 3, 4, 5, 6, 7, 8, 9, 10, 11, 12, 13, 14, 15, 16, 17]) (F := []) (V := VL [(0, fun v _ => v = .pointer (some ⟨B_3, 0, none⟩)), (1, fun v _ => v = .int .i64 a_1_Kind), (2, fun v _ => v = .pointer (some ⟨B_11, 0, none⟩)), (3, fun v _ => v = .int .i64 b_2_Kind), (4, fun v _ => v = .int .i64 r_36), (5, fun v _ => v = .pointer (some ⟨B_3, 1, none⟩)), (6, fun v _ => v = .string (Bs a_1_Name)), (7, fun v _ => v = .pointer (some ⟨B_11, 1, none⟩)), (8, fun v _ => v = .string (Bs b_2_Name)), (9, fun v _ => v = .int .i64 r_43), (10, fun v _ => v = .pointer (some ⟨B_3, 2, none⟩)), (11, fun v _ => v = .string (Bs a_1_Text)), (12, fun v _ => v = .pointer (some ⟨B_11, 2, none⟩)), (13, fun v _ => v = .string (Bs b_2_Text)), (14, fun v _ => v = .int .i64 r_50), (15, fun v w' => ∃ B_56 : Nat, w24.heap.size ≤ B_56 ∧ Box w' B_56 3 [.int .i64 r_36, .int .i64 r_43, .int .i64 r_50] ∧ v = Sl.v (Sl.mk (some ⟨B_56, 0, none⟩) 3 3)), (16, fun v _ => v = .int .i64 r_64), (17, fun v _ => v = .int .i64 r_64)]) hA23 (by kernel_rfl) ⟨fun _ _ _ _ h => by first | exact h | (change _ = _ at h; change _ = _; exact h), fun _ _ _ _ h => by first | exact h | (change _ = _ at h; change _ = _; exact h), fun _ _ _ _ h => by first | exact h | (change _ = _ at h; change _ = _; exact h), fun _ _ _ _ h => by first | exact h | (change _ = _ at h; change _ = _; exact h), fun _ _ _ _ h => by first | exact h | (change _ = _ at h; change _ = _; exact h), fun _ _ _ _ h => by first | exact h | (change _ = _ at h; change _ = _; exact h), fun _ _ _ _ h => by first | exact h | (change _ = _ at h; change _ = _; exact h), fun _ _ _ _ h => by first | exact h | (change _ = _ at h; change _ = _; exact h), fun _ _ _ _ h => by first | exact h | (change _ = _ at h; change _ = _; exact h), fun _ _ _ _ h => by first | exact h | (change _ = _ at h; change _ = _; exact h), fun _ _ _ _ h => by first | exact h | (change _ = _ at h; change _ = _; exact h), fun _ _ _ _ h => by first | exact h | (change _ = _ at h; change _ = _; exact h), fun _ _ _ _ h => by first | exact h | (change _ = _ at h; change _ = _; exact h), fun _ _ _ _ h => by first | exact h | (change _ = _ at h; change _ = _; exact h), fun _ _ _ _ h => by first | exact h | (change _ = _ at h; change _ = _; exact h), fun _ _ _ hE ⟨B_56, h0_, h1_, e⟩ => ⟨B_56, h0_, (h1_.ext hE), e⟩, fun _ _ _ _ h => by first | exact h | (change _ = _ at h; change _ = _; exact h), fun _ _ _ _ h => by first | exact h | (change _ = _ at h; change _ = _; exact h), trivial⟩ ⟨?_, ?_, ?_, ?_, ?_, ?_, ?_, ?_, ?_, ?_, ?_, ?_, ?_, ?_, ?_, ?_, ?_, ?_, trivial⟩ ?_
  · intro a w hT
    have hAp := hT.ag hA23 [(2, .pointer (some ⟨B_3, 0, none⟩))] ⟨rfl, trivial⟩ (by kernel_rfl)
    exact opk_val hAp rfl (r_fieldAddr (hAp.get rfl) Try.underlying26 rfl ti_3 (by decide)) fun _ _ e => ⟨_, e, Chg.refl _ _, fun _ => Eq.refl _⟩
  · intro a w hT
    have hAp := hT.ag hA23 [] trivial (by kernel_rfl)
    have e32 : a.tmps.getD 8 undef = .pointer (some ⟨B_3, 0, none⟩) := hT.vals 0 rfl 8 rfl
    have hAp := hAp.add e32
    exact opk_val hAp rfl (r_load1 Try.underlying3 rfl (hAp.get rfl) ((hB26.ext hT.chg).cell 0 _ rfl)) fun _ _ e => ⟨_, e, Chg.refl _ _, fun _ => Eq.refl _⟩
  · intro a w hT
    have hAp := hT.ag hA23 [(3, .pointer (some ⟨B_11, 0, none⟩))] ⟨rfl, trivial⟩ (by kernel_rfl)
    exact opk_val hAp rfl (r_fieldAddr (hAp.get rfl) Try.underlying26 rfl ti_3 (by decide)) fun _ _ e => ⟨_, e, Chg.refl _ _, fun _ => Eq.refl _⟩
  · intro a w hT
    have hAp := hT.ag hA23 [] trivial (by kernel_rfl)
    have e33 : a.tmps.getD 10 undef = .pointer (some ⟨B_11, 0, none⟩) := hT.vals 2 rfl 10 rfl
    have hAp := hAp.add e33
    exact opk_val hAp rfl (r_load1 Try.underlying3 rfl (hAp.get rfl) ((hB27.ext hT.chg).cell 0 _ rfl)) fun _ _ e => ⟨_, e, Chg.refl _ _, fun _ => Eq.refl _⟩
  · intro a w hT
    have hAp := hT.ag hA23 [] trivial (by kernel_rfl)
    have e34 : a.tmps.getD 9 undef = .int .i64 a_1_Kind := hT.vals 1 rfl 9 rfl
    have hAp := hAp.add e34
    have e35 : a.tmps.getD 11 undef = .int .i64 b_2_Kind := hT.vals 3 rfl 11 rfl
    have hAp := hAp.add e35
    exact opk_callX hAp rfl (r_call (args := #[.int .i64 a_1_Kind, .int .i64 b_2_Kind]) Try.func41 (by decide) rfl (map_arr (ml_cons (hAp.get rfl) (ml_cons (hAp.get rfl) ml_nil))) rfl) (hc37 w hT.chg) fun _ _ _ _ e hR => ⟨_, e, hR.1, fun _ => hR.2⟩
  · intro a w hT
    have hAp := hT.ag hA23 [(2, .pointer (some ⟨B_3, 0, none⟩))] ⟨rfl, trivial⟩ (by kernel_rfl)
    exact opk_val hAp rfl (r_fieldAddr (hAp.get rfl) Try.underlying26 rfl ti_9 (by decide)) fun _ _ e => ⟨_, e, Chg.refl _ _, fun _ => Eq.refl _⟩
  · intro a w hT
    have hAp := hT.ag hA23 [] trivial (by kernel_rfl)
    have e39 : a.tmps.getD 13 undef = .pointer (some ⟨B_3, 1, none⟩) := hT.vals 5 rfl 13 rfl
    have hAp := hAp.add e39
    exact opk_val hAp rfl (r_load1 Try.underlying9 rfl (hAp.get rfl) ((hB26.ext hT.chg).cell 1 _ rfl)) fun _ _ e => ⟨_, e, Chg.refl _ _, fun _ => Eq.refl _⟩
  · intro a w hT
    have hAp := hT.ag hA23 [(3, .pointer (some ⟨B_11, 0, none⟩))] ⟨rfl, trivial⟩ (by kernel_rfl)
    exact opk_val hAp rfl (r_fieldAddr (hAp.get rfl) Try.underlying26 rfl ti_9 (by decide)) fun _ _ e => ⟨_, e, Chg.refl _ _, fun _ => Eq.refl _⟩
  · intro a w hT
    have hAp := hT.ag hA23 [] trivial (by kernel_rfl)
    have e40 : a.tmps.getD 15 undef = .pointer (some ⟨B_11, 1, none⟩) := hT.vals 7 rfl 15 rfl
    have hAp := hAp.add e40
    exact opk_val hAp rfl (r_load1 Try.underlying9 rfl (hAp.get rfl) ((hB27.ext hT.chg).cell 1 _ rfl)) fun _ _ e => ⟨_, e, Chg.refl _ _, fun _ => Eq.refl _⟩
  · intro a w hT
    have hAp := hT.ag hA23 [] trivial (by kernel_rfl)
    have e41 : a.tmps.getD 14 undef = .string (Bs a_1_Name) := hT.vals 6 rfl 14 rfl
    have hAp := hAp.add e41
    have e42 : a.tmps.getD 16 undef = .string (Bs b_2_Name) := hT.vals 8 rfl 16 rfl
    have hAp := hAp.add e42
    exact opk_callX hAp rfl (r_call (args := #[.string (Bs a_1_Name), .string (Bs b_2_Name)]) Try.func42 (by decide) rfl (map_arr (ml_cons (hAp.get rfl) (ml_cons (hAp.get rfl) ml_nil))) rfl) (hc44 w hT.chg) fun _ _ _ _ e hR => ⟨_, e, hR.1, fun _ => hR.2⟩
  · intro a w hT
    have hAp := hT.ag hA23 [(2, .pointer (some ⟨B_3, 0, none⟩))] ⟨rfl, trivial⟩ (by kernel_rfl)
    exact opk_val hAp rfl (r_fieldAddr (hAp.get rfl) Try.underlying26 rfl ti_9 (by decide)) fun _ _ e => ⟨_, e, Chg.refl _ _, fun _ => Eq.refl _⟩
  · intro a w hT
    have hAp := hT.ag hA23 [] trivial (by kernel_rfl)
    have e46 : a.tmps.getD 18 undef = .pointer (some ⟨B_3, 2, none⟩) := hT.vals 10 rfl 18 rfl
    have hAp := hAp.add e46
    exact opk_val hAp rfl (r_load1 Try.underlying9 rfl (hAp.get rfl) ((hB26.ext hT.chg).cell 2 _ rfl)) fun _ _ e => ⟨_, e, Chg.refl _ _, fun _ => Eq.refl _⟩
  · intro a w hT
    have hAp := hT.ag hA23 [(3, .pointer (some ⟨B_11, 0, none⟩))] ⟨rfl, trivial⟩ (by kernel_rfl)
    exact opk_val hAp rfl (r_fieldAddr (hAp.get rfl) Try.underlying26 rfl ti_9 (by decide)) fun _ _ e => ⟨_, e, Chg.refl _ _, fun _ => Eq.refl _⟩
  · intro a w hT
    have hAp := hT.ag hA23 [] trivial (by kernel_rfl)
    have e47 : a.tmps.getD 20 undef = .pointer (some ⟨B_11, 2, none⟩) := hT.vals 12 rfl 20 rfl
    have hAp := hAp.add e47
    exact opk_val hAp rfl (r_load1 Try.underlying9 rfl (hAp.get rfl) ((hB27.ext hT.chg).cell 2 _ rfl)) fun _ _ e => ⟨_, e, Chg.refl _ _, fun _ => Eq.refl _⟩
  · intro a w hT
    have hAp := hT.ag hA23 [] trivial (by kernel_rfl)
    have e48 : a.tmps.getD 19 undef = .string (Bs a_1_Text) := hT.vals 11 rfl 19 rfl
    have hAp := hAp.add e48
    have e49 : a.tmps.getD 21 undef = .string (Bs b_2_Text) := hT.vals 13 rfl 21 rfl
    have hAp := hAp.add e49
    exact opk_callX hAp rfl (r_call (args := #[.string (Bs a_1_Text), .string (Bs b_2_Text)]) Try.func42 (by decide) rfl (map_arr (ml_cons (hAp.get rfl) (ml_cons (hAp.get rfl) ml_nil))) rfl) (hc51 w hT.chg) fun _ _ _ _ e hR => ⟨_, e, hR.1, fun _ => hR.2⟩
  · intro a w hT
    have hAp := hT.ag hA23 [] trivial (by kernel_rfl)
    have e53 : a.tmps.getD 12 undef = .int .i64 r_36 := hT.vals 4 rfl 12 rfl
    have hAp := hAp.add e53
    have e54 : a.tmps.getD 17 undef = .int .i64 r_43 := hT.vals 9 rfl 17 rfl
    have hAp := hAp.add e54
    have e55 : a.tmps.getD 22 undef = .int .i64 r_50 := hT.vals 14 rfl 22 rfl
    have hAp := hAp.add e55
    exact opk_new (fun B => .slice (some ⟨B, 0, none⟩) 3 3) hAp rfl (r_buildSlice (vs := #[(0, .int .i64 r_36), (1, .int .i64 r_43), (2, .int .i64 r_50)]) (cs := [.int .i64 r_36, .int .i64 r_43, .int .i64 r_50]) (map_arr2 (ml2_cons (hAp.get rfl) (ml2_cons (hAp.get rfl) (ml2_cons (hAp.get rfl) (ml2_nil))))) Try.underlying22 ti_3 rfl rfl (by kernel_rfl)) fun _ w57 B_56 hE58 hN59 hB60 _ e => ⟨_, e, hE58, fun _ => ⟨B_56, Nat.le_trans hT.chg.size hN59.ge, hB60, rfl⟩⟩
  · intro a w hT
    have hAp := hT.ag hA23 [] trivial (by kernel_rfl)
    obtain ⟨B_56, hf62, hf63, e61⟩ := hT.vals 15 rfl 23 rfl
    have hAp := hAp.add e61
    exact opk_callX hAp rfl (r_call (args := #[Sl.v (Sl.mk (some ⟨B_56, 0, none⟩) 3 3)]) Try.func40 (by decide) rfl (map_arr (ml_cons (hAp.get rfl) ml_nil)) rfl) (hc65 B_56 w hT.chg hf62 hf63) fun _ _ _ _ e hR => ⟨_, e, hR.1, fun _ => hR.2⟩
  · intro a w hT
    have hAp := hT.ag hA23 [] trivial (by kernel_rfl)
    have e67 : a.tmps.getD 24 undef = .int .i64 r_64 := hT.vals 16 rfl 24 rfl
    have hAp := hAp.add e67
    exact opk_val hAp rfl (r_assign (hAp.get rfl)) fun _ _ e => ⟨_, e, Chg.refl _ _, fun _ => Eq.refl _⟩
  · intro a68 w69 hE70 hag71 hv72
    have hA68 := hag71 [(2, .pointer (some ⟨B_3, 0, none⟩)), (3, .pointer (some ⟨B_11, 0, none⟩))] ⟨rfl, rfl, trivial⟩ (by kernel_rfl)
    have e74 : a68.tmps.getD 5 undef = .int .i64 r_64 := hv72 17 rfl 5 rfl
    have hA75 := hA68.add e74
    have hB76 := hB26.ext hE70
    have hB77 := hB27.ext hE70
    have hC78 : Chg [] w24 w69 := hE70
    refine PR_end (by kernel_rfl) ?_
    have hA79 := hA75.keep [(2, .pointer (some ⟨B_3, 0, none⟩)), (3, .pointer (some ⟨B_11, 0, none⟩)), (5, .int .i64 r_64)] ⟨rfl, rfl, rfl, trivial⟩
    refine then_normal ?_
    refine wp_seq ?_
    refine wp_seq ?_
    refine wp_region_lit ?_
    refine sq (opk_val hA79 rfl (r_assign rfl) fun a80 hA80 _ => ?_)
    refine sq_end ?_
    have hA81 := hA80.keep [(2, .pointer (some ⟨B_3, 0, none⟩)), (3, .pointer (some ⟨B_11, 0, none⟩)), (5, .int .i64 r_64), (6, .int .i64 0)] ⟨rfl, rfl, rfl, rfl, trivial⟩
    refine then_normal ?_
    refine wp_block ?_
    have ht201 := ht66 w69    hC78
    obtain ⟨J_85, mu_86, h0206, ht205⟩ := ht201
    refine wp_loop_st (σ := Int × Int × World) (fun s a w => Ag 120 a [(2, .pointer (some ⟨B_3, 0, none⟩)), (3, .pointer (some ⟨B_11, 0, none⟩)), (5, .int .i64 s.1), (6, .int .i64 s.2.1)] ∧ Box w B_3 26 [.int .i64 a_1_Kind, .string (Bs a_1_Name), .string (Bs a_1_Text), Sl.v a_1_Attrs, Sl.v a_1_Kids] ∧ Box w B_11 26 [.int .i64 b_2_Kind, .string (Bs b_2_Name), .string (Bs b_2_Text), Sl.v b_2_Attrs, Sl.v b_2_Kids] ∧ w = s.2.2 ∧ J_85 s.1 s.2.1 s.2.2) (fun s => mu_86 s.1 s.2.1 s.2.2) (r_64, 0, w69) ⟨hA81.keep [(2, .pointer (some ⟨B_3, 0, none⟩)), (3, .pointer (some ⟨B_11, 0, none⟩)), (5, .int .i64 r_64), (6, .int .i64 0)] ⟨rfl, rfl, rfl, rfl, trivial⟩, hB76, hB77, rfl, h0206⟩ ?_
    rintro ⟨x_82, i_83, w84⟩ a202 w_ ⟨hA202, hB203, hB204, hw_, hJ208⟩
    have hw_ : w84 = w_ := hw_.symm
    subst hw_
    have ht207 := ht205 x_82 i_83 _ hJ208
    refine wp_seq ?_
    refine wp_seq ?_
    refine wp_region_lit ?_
    refine sq (opk_val hA202 rfl (r_move (hA202.get rfl)) fun a209 hA209 _ => ?_)
    refine sq (opk_val hA209 rfl (r_eql (hA209.get rfl) rfl) fun a210 hA210 _ => ?_)
    refine sq (opk_val hA210 rfl (r_move (hA210.get rfl)) fun a211 hA211 _ => ?_)
    refine sq (opk_gval hA211 rfl rfl (g := true) (e := (decide (x_82 = 0))) rfl (fun hg => r_move (hA211.get rfl)) fun a212 hA212 _ => ?_)
    refine sq (opk_gval hA212 rfl rfl (g := true) (e := (decide (x_82 = 0))) rfl (fun hg => r_fieldAddr (hA212.get rfl) Try.underlying26 rfl ti_23 (by decide)) fun a213 hA213 _ => ?_)
    refine sq (opk_gval hA213 rfl rfl (g := true) (e := (decide (x_82 = 0))) rfl (fun hg => r_load1 Try.underlying23 rfl (cv_get (hA213.get rfl) hg) (hB203.cell 3 _ rfl)) fun a214 hA214 _ => ?_)
    refine sq (opk_gval hA214 rfl rfl (g := true) (e := (decide (x_82 = 0))) rfl (fun hg => r_len (cv_get (hA214.get rfl) hg) Try.underlying23) fun a215 hA215 _ => ?_)
    refine sq (opk_gval hA215 rfl rfl (g := true) (e := (decide (x_82 = 0))) rfl (fun hg => r_lss (cv_get (hA215.get rfl) hg) (cv_get (hA215.get rfl) hg)) fun a216 hA216 _ => ?_)
    refine sq (opk_val hA216 rfl (r_pick_and (g := (true && ((decide (x_82 = 0)) == true))) (hA216.get rfl) (hA216.get rfl) (fun he => g_mkt rfl he)) fun a217 hA217 _ => ?_)
    refine sq (opk_val hA217 rfl (r_move (hA217.get rfl)) fun a218 hA218 _ => ?_)
    refine sq (opk_gval hA218 rfl rfl (g := true) (e := ((decide (x_82 = 0)) && (decide (i_83 < (a_1_Attrs.n : Int))))) rfl (fun hg => r_move (hA218.get rfl)) fun a219 hA219 _ => ?_)
    refine sq (opk_gval hA219 rfl rfl (g := true) (e := ((decide (x_82 = 0)) && (decide (i_83 < (a_1_Attrs.n : Int))))) rfl (fun hg => r_fieldAddr (hA219.get rfl) Try.underlying26 rfl ti_23 (by decide)) fun a220 hA220 _ => ?_)
    refine sq (opk_gval hA220 rfl rfl (g := true) (e := ((decide (x_82 = 0)) && (decide (i_83 < (a_1_Attrs.n : Int))))) rfl (fun hg => r_load1 Try.underlying23 rfl (cv_get (hA220.get rfl) hg) (hB204.cell 3 _ rfl)) fun a221 hA221 _ => ?_)
    refine sq (opk_gval hA221 rfl rfl (g := true) (e := ((decide (x_82 = 0)) && (decide (i_83 < (a_1_Attrs.n : Int))))) rfl (fun hg => r_len (cv_get (hA221.get rfl) hg) Try.underlying23) fun a222 hA222 _ => ?_)
    refine sq (opk_gval hA222 rfl rfl (g := true) (e := ((decide (x_82 = 0)) && (decide (i_83 < (a_1_Attrs.n : Int))))) rfl (fun hg => r_lss (cv_get (hA222.get rfl) hg) (cv_get (hA222.get rfl) hg)) fun a223 hA223 _ => ?_)
    refine sq (opk_val hA223 rfl (r_pick_and (g := (true && (((decide (x_82 = 0)) && (decide (i_83 < (a_1_Attrs.n : Int)))) == true))) (hA223.get rfl) (hA223.get rfl) (fun he => g_mkt rfl he)) fun a224 hA224 _ => ?_)
    refine sq_end ?_
    have hA225 := hA224.keep [(2, .pointer (some ⟨B_3, 0, none⟩)), (3, .pointer (some ⟨B_11, 0, none⟩)), (5, .int .i64 x_82), (6, .int .i64 i_83), (40, .bool (((decide (x_82 = 0)) && (decide (i_83 < (a_1_Attrs.n : Int)))) && (decide (i_83 < (b_2_Attrs.n : Int)))))] ⟨rfl, rfl, rfl, rfl, rfl, trivial⟩
    refine then_normal ?_
    refine wp_cond_split (hA225.get rfl) (fun hc => ?_) (fun hc => ?_)
    · have ht226 := ht207.1 ⟨⟨(of_decide_eq_true (b_and_t (b_and_t hc).1).1), (of_decide_eq_true (b_and_t (b_and_t hc).1).2)⟩, (of_decide_eq_true (b_and_t hc).2)⟩
      clear hc
      refine wp_skip ?_
      refine then_normal ?_
      refine wp_seq ?_
      refine wp_block ?_
      refine draw' (by kernel_rfl) fun w228 hE229 => ?_
      have hB230 := hB203.ext hE229
      have hB231 := hB204.ext hE229
      have hC232 : Chg [] w84 w228 := hE229
      have ht233 := ht226 w228    hC232
      obtain ⟨p_237, hp238, ht239⟩ := ht233
      obtain ⟨x_242, hx243, ht244⟩ := ht239
      obtain ⟨p_248, hp249, ht250⟩ := ht244
      obtain ⟨x_253, hx254, ht255⟩ := ht250
      obtain ⟨r_258, hc259, ht260⟩ := ht255
      obtain ⟨p_264, hp265, ht266⟩ := ht260
      obtain ⟨x_269, hx270, ht271⟩ := ht266
      obtain ⟨p_275, hp276, ht277⟩ := ht271
      obtain ⟨x_280, hx281, ht282⟩ := ht277
      obtain ⟨r_285, hc286, ht287⟩ := ht282
      obtain ⟨r_298, hc299, ht300⟩ := ht287
      refine par (D := [[], [0], [], [0, 1, 2], [0, 1, 2, 3], [0, 1, 2, 3, 4], [], [6], [], [6, 7, 8], [6, 7, 8, 9], [6, 7, 8, 9, 10], [0, 1, 2, 3, 4, 5, 6, 7, 8, 9, 10, 11], [], [13], [], [13, 14, 15], [13, 14, 15, 16], [13, 14, 15, 16, 17], [], [19], [], [19, 20, 21], [19, 20, 21, 22], [19, 20, 21, 22, 23], [0, 1, 2, 3, 4, 5, 6, 7, 8, 9, 10, 11, 12, 13, 14, 15, 16, 17, 18, 19, 20, 21, 22, 23, 24], [0, 1, 2, 3, 4, 5, 6, 7, 8, 9, 10, 11, 12, 13, 14, 15, 16, 17, 18, 19, 20, 21, 22, 23, 24, 25], [0, 1, 2, 3, 4, 5, 6, 7, 8, 9, 10, 11, 12, 13, 14, 15, 16, 17, 18, 19, 20, 21, 22, 23, 24, 25, 26], [0, 1, 2, 3, 4, 5, 6, 7, 8, 9, 10, 11, 12, 13, 14, 15, 16, 17, 18, 19, 20, 21, 22, 23, 24, 25, 26, 27]]) (S := [0, 1, 2, 3, 4, 5, 6, 7, 8, 9, 10, 11, 12, 13, 14, 15, 16, 17, 18, 19, 20, 21, 22, 23, 24, 25, 26, 27, 28]) (F := []) (V := VL [(0, fun v _ => v = .pointer (some ⟨B_3, 3, none⟩)), (1, fun v _ => v = Sl.v a_1_Attrs), (2, fun v _ => v = .int .i64 i_83), (3, fun v _ => v = .pointer (some (p_237.add (i_83.toNat * 2)))), (4, fun v _ => v = .pointer (some ((p_237.add (i_83.toNat * 2)).add 0))), (5, fun v _ => v = .string (Bs x_242)), (6, fun v _ => v = .pointer (some ⟨B_11, 3, none⟩)), (7, fun v _ => v = Sl.v b_2_Attrs), (8, fun v _ => v = .int .i64 i_83), (9, fun v _ => v = .pointer (some (p_248.add (i_83.toNat * 2)))), (10, fun v _ => v = .pointer (some ((p_248.add (i_83.toNat * 2)).add 0))), (11, fun v _ => v = .string (Bs x_253)), (12, fun v _ => v = .int .i64 r_258), (13, fun v _ => v = .pointer (some ⟨B_3, 3, none⟩)), (14, fun v _ => v = Sl.v a_1_Attrs), (15, fun v _ => v = .int .i64 i_83), (16, fun v _ => v = .pointer (some (p_264.add (i_83.toNat * 2)))), (17, fun v _ => v = .pointer (some ((p_264.add (i_83.toNat * 2)).add 1))), (18, fun v _ => v = .string (Bs x_269)), (19, fun v _ => v = .pointer (some ⟨B_11, 3, none⟩)), (20, fun v _ => v = Sl.v b_2_Attrs), (21, fun v _ => v = .int .i64 i_83), (22, fun v _ => v = .pointer (some (p_275.add (i_83.toNat * 2)))), (23, fun v _ => v = .pointer (some ((p_275.add (i_83.toNat * 2)).add 1))), (24, fun v _ => v = .string (Bs x_280)), (25, fun v _ => v = .int .i64 r_285), (26, fun v w' => ∃ B_290 : Nat, w228.heap.size ≤ B_290 ∧ Box w' B_290 3 [.int .i64 r_258, .int .i64 r_285] ∧ v = Sl.v (Sl.mk (some ⟨B_290, 0, none⟩) 2 2)), (27, fun v _ => v = .int .i64 r_298), (28, fun v _ => v = .int .i64 r_298)]) hA225 (by kernel_rfl) ⟨fun _ _ _ _ h => by first | exact h | (change _ = _ at h; change _ = _; exact h), fun _ _ _ _ h => by first | exact h | (change _ = _ at h; change _ = _; exact h), fun _ _ _ _ h => by first | exact h | (change _ = _ at h; change _ = _; exact h), fun _ _ _ _ h => by first | exact h | (change _ = _ at h; change _ = _; exact h), fun _ _ _ _ h => by first | exact h | (change _ = _ at h; change _ = _; exact h), fun _ _ _ _ h => by first | exact h | (change _ = _ at h; change _ = _; exact h), fun _ _ _ _ h => by first | exact h | (change _ = _ at h; change _ = _; exact h), fun _ _ _ _ h => by first | exact h | (change _ = _ at h; change _ = _; exact h), fun _ _ _ _ h => by first | exact h | (change _ = _ at h; change _ = _; exact h), fun _ _ _ _ h => by first | exact h | (change _ = _ at h; change _ = _; exact h), fun _ _ _ _ h => by first | exact h | (change _ = _ at h; change _ = _; exact h), fun _ _ _ _ h => by first | exact h | (change _ = _ at h; change _ = _; exact h), fun _ _ _ _ h => by first | exact h | (change _ = _ at h; change _ = _; exact h), fun _ _ _ _ h => by first | exact h | (change _ = _ at h; change _ = _; exact h), fun _ _ _ _ h => by first | exact h | (change _ = _ at h; change _ = _; exact h), fun _ _ _ _ h => by first | exact h | (change _ = _ at h; change _ = _; exact h), fun _ _ _ _ h => by first | exact h | (change _ = _ at h; change _ = _; exact h), fun _ _ _ _ h => by first | exact h | (change _ = _ at h; change _ = _; exact h), fun _ _ _ _ h => by first | exact h | (change _ = _ at h; change _ = _; exact h), fun _ _ _ _ h => by first | exact h | (change _ = _ at h; change _ = _; exact h), fun _ _ _ _ h => by first | exact h | (change _ = _ at h; change _ = _; exact h), fun _ _ _ _ h => by first | exact h | (change _ = _ at h; change _ = _; exact h), fun _ _ _ _ h => by first | exact h | (change _ = _ at h; change _ = _; exact h), fun _ _ _ _ h => by first | exact h | (change _ = _ at h; change _ = _; exact h), fun _ _ _ _ h => by first | exact h | (change _ = _ at h; change _ = _; exact h), fun _ _ _ _ h => by first | exact h | (change _ = _ at h; change _ = _; exact h), fun _ _ _ hE ⟨B_290, h0_, h1_, e⟩ => ⟨B_290, h0_, (h1_.ext hE), e⟩, fun _ _ _ _ h => by first | exact h | (change _ = _ at h; change _ = _; exact h), fun _ _ _ _ h => by first | exact h | (change _ = _ at h; change _ = _; exact h), trivial⟩ ⟨?_, ?_, ?_, ?_, ?_, ?_, ?_, ?_, ?_, ?_, ?_, ?_, ?_, ?_, ?_, ?_, ?_, ?_, ?_, ?_, ?_, ?_, ?_, ?_, ?_, ?_, ?_, ?_, ?_, trivial⟩ ?_
      · intro a w hT
        have hAp := hT.ag hA225 [(2, .pointer (some ⟨B_3, 0, none⟩))] ⟨rfl, trivial⟩ (by kernel_rfl)
        exact opk_val hAp rfl (r_fieldAddr (hAp.get rfl) Try.underlying26 rfl ti_23 (by decide)) fun _ _ e => ⟨_, e, Chg.refl _ _, fun _ => Eq.refl _⟩
      · intro a w hT
        have hAp := hT.ag hA225 [] trivial (by kernel_rfl)
        have e234 : a.tmps.getD 43 undef = .pointer (some ⟨B_3, 3, none⟩) := hT.vals 0 rfl 43 rfl
        have hAp := hAp.add e234
        exact opk_val hAp rfl (r_load1 Try.underlying23 rfl (hAp.get rfl) ((hB230.ext hT.chg).cell 3 _ rfl)) fun _ _ e => ⟨_, e, Chg.refl _ _, fun _ => Eq.refl _⟩
      · intro a w hT
        have hAp := hT.ag hA225 [(6, .int .i64 i_83)] ⟨rfl, trivial⟩ (by kernel_rfl)
        exact opk_val hAp rfl (r_move (hAp.get rfl)) fun _ _ e => ⟨_, e, Chg.refl _ _, fun _ => Eq.refl _⟩
      · intro a w hT
        have hAp := hT.ag hA225 [] trivial (by kernel_rfl)
        have e235 : a.tmps.getD 44 undef = Sl.v a_1_Attrs := hT.vals 1 rfl 44 rfl
        have hAp := hAp.add e235
        have e236 : a.tmps.getD 45 undef = .int .i64 i_83 := hT.vals 2 rfl 45 rfl
        have hAp := hAp.add e236
        exact opk_val hAp rfl (r_indexAddr (hAp.get rfl) (hAp.get rfl) Try.underlying23 ti_33 hp238.1 hp238.2) fun _ _ e => ⟨_, e, Chg.refl _ _, fun _ => Eq.refl _⟩
      · intro a w hT
        have hAp := hT.ag hA225 [] trivial (by kernel_rfl)
        have e240 : a.tmps.getD 46 undef = .pointer (some (p_237.add (i_83.toNat * 2))) := hT.vals 3 rfl 46 rfl
        have hAp := hAp.add e240
        exact opk_val hAp rfl (r_fieldAddr (hAp.get rfl) Try.underlying33 rfl ti_9 (by decide)) fun _ _ e => ⟨_, e, Chg.refl _ _, fun _ => Eq.refl _⟩
      · intro a w hT
        have hAp := hT.ag hA225 [] trivial (by kernel_rfl)
        have e241 : a.tmps.getD 47 undef = .pointer (some ((p_237.add (i_83.toNat * 2)).add 0)) := hT.vals 4 rfl 47 rfl
        have hAp := hAp.add e241
        exact opk_val hAp rfl (r_load1 Try.underlying9 rfl (hAp.get rfl) (Ext.cell hT.chg hx243)) fun _ _ e => ⟨_, e, Chg.refl _ _, fun _ => Eq.refl _⟩
      · intro a w hT
        have hAp := hT.ag hA225 [(3, .pointer (some ⟨B_11, 0, none⟩))] ⟨rfl, trivial⟩ (by kernel_rfl)
        exact opk_val hAp rfl (r_fieldAddr (hAp.get rfl) Try.underlying26 rfl ti_23 (by decide)) fun _ _ e => ⟨_, e, Chg.refl _ _, fun _ => Eq.refl _⟩
      · intro a w hT
        have hAp := hT.ag hA225 [] trivial (by kernel_rfl)
        have e245 : a.tmps.getD 49 undef = .pointer (some ⟨B_11, 3, none⟩) := hT.vals 6 rfl 49 rfl
        have hAp := hAp.add e245
        exact opk_val hAp rfl (r_load1 Try.underlying23 rfl (hAp.get rfl) ((hB231.ext hT.chg).cell 3 _ rfl)) fun _ _ e => ⟨_, e, Chg.refl _ _, fun _ => Eq.refl _⟩
      · intro a w hT
        have hAp := hT.ag hA225 [(6, .int .i64 i_83)] ⟨rfl, trivial⟩ (by kernel_rfl)
        exact opk_val hAp rfl (r_move (hAp.get rfl)) fun _ _ e => ⟨_, e, Chg.refl _ _, fun _ => Eq.refl _⟩
      · intro a w hT
        have hAp := hT.ag hA225 [] trivial (by kernel_rfl)
        have e246 : a.tmps.getD 50 undef = Sl.v b_2_Attrs := hT.vals 7 rfl 50 rfl
        have hAp := hAp.add e246
        have e247 : a.tmps.getD 51 undef = .int .i64 i_83 := hT.vals 8 rfl 51 rfl
        have hAp := hAp.add e247
        exact opk_val hAp rfl (r_indexAddr (hAp.get rfl) (hAp.get rfl) Try.underlying23 ti_33 hp249.1 hp249.2) fun _ _ e => ⟨_, e, Chg.refl _ _, fun _ => Eq.refl _⟩
      · intro a w hT
        have hAp := hT.ag hA225 [] trivial (by kernel_rfl)
        have e251 : a.tmps.getD 52 undef = .pointer (some (p_248.add (i_83.toNat * 2))) := hT.vals 9 rfl 52 rfl
        have hAp := hAp.add e251
        exact opk_val hAp rfl (r_fieldAddr (hAp.get rfl) Try.underlying33 rfl ti_9 (by decide)) fun _ _ e => ⟨_, e, Chg.refl _ _, fun _ => Eq.refl _⟩
      · intro a w hT
        have hAp := hT.ag hA225 [] trivial (by kernel_rfl)
        have e252 : a.tmps.getD 53 undef = .pointer (some ((p_248.add (i_83.toNat * 2)).add 0)) := hT.vals 10 rfl 53 rfl
        have hAp := hAp.add e252
        exact opk_val hAp rfl (r_load1 Try.underlying9 rfl (hAp.get rfl) (Ext.cell hT.chg hx254)) fun _ _ e => ⟨_, e, Chg.refl _ _, fun _ => Eq.refl _⟩
      · intro a w hT
        have hAp := hT.ag hA225 [] trivial (by kernel_rfl)
        have e256 : a.tmps.getD 48 undef = .string (Bs x_242) := hT.vals 5 rfl 48 rfl
        have hAp := hAp.add e256
        have e257 : a.tmps.getD 54 undef = .string (Bs x_253) := hT.vals 11 rfl 54 rfl
        have hAp := hAp.add e257
        exact opk_callX hAp rfl (r_call (args := #[.string (Bs x_242), .string (Bs x_253)]) Try.func42 (by decide) rfl (map_arr (ml_cons (hAp.get rfl) (ml_cons (hAp.get rfl) ml_nil))) rfl) (hc259 w hT.chg) fun _ _ _ _ e hR => ⟨_, e, hR.1, fun _ => hR.2⟩
      · intro a w hT
        have hAp := hT.ag hA225 [(2, .pointer (some ⟨B_3, 0, none⟩))] ⟨rfl, trivial⟩ (by kernel_rfl)
        exact opk_val hAp rfl (r_fieldAddr (hAp.get rfl) Try.underlying26 rfl ti_23 (by decide)) fun _ _ e => ⟨_, e, Chg.refl _ _, fun _ => Eq.refl _⟩
      · intro a w hT
        have hAp := hT.ag hA225 [] trivial (by kernel_rfl)
        have e261 : a.tmps.getD 56 undef = .pointer (some ⟨B_3, 3, none⟩) := hT.vals 13 rfl 56 rfl
        have hAp := hAp.add e261
        exact opk_val hAp rfl (r_load1 Try.underlying23 rfl (hAp.get rfl) ((hB230.ext hT.chg).cell 3 _ rfl)) fun _ _ e => ⟨_, e, Chg.refl _ _, fun _ => Eq.refl _⟩
      · intro a w hT
        have hAp := hT.ag hA225 [(6, .int .i64 i_83)] ⟨rfl, trivial⟩ (by kernel_rfl)
        exact opk_val hAp rfl (r_move (hAp.get rfl)) fun _ _ e => ⟨_, e, Chg.refl _ _, fun _ => Eq.refl _⟩
      · intro a w hT
        have hAp := hT.ag hA225 [] trivial (by kernel_rfl)
        have e262 : a.tmps.getD 57 undef = Sl.v a_1_Attrs := hT.vals 14 rfl 57 rfl
        have hAp := hAp.add e262
        have e263 : a.tmps.getD 58 undef = .int .i64 i_83 := hT.vals 15 rfl 58 rfl
        have hAp := hAp.add e263
        exact opk_val hAp rfl (r_indexAddr (hAp.get rfl) (hAp.get rfl) Try.underlying23 ti_33 hp265.1 hp265.2) fun _ _ e => ⟨_, e, Chg.refl _ _, fun _ => Eq.refl _⟩
      · intro a w hT
        have hAp := hT.ag hA225 [] trivial (by kernel_rfl)
        have e267 : a.tmps.getD 59 undef = .pointer (some (p_264.add (i_83.toNat * 2))) := hT.vals 16 rfl 59 rfl
        have hAp := hAp.add e267
        exact opk_val hAp rfl (r_fieldAddr (hAp.get rfl) Try.underlying33 rfl ti_9 (by decide)) fun _ _ e => ⟨_, e, Chg.refl _ _, fun _ => Eq.refl _⟩
      · intro a w hT
        have hAp := hT.ag hA225 [] trivial (by kernel_rfl)
        have e268 : a.tmps.getD 60 undef = .pointer (some ((p_264.add (i_83.toNat * 2)).add 1)) := hT.vals 17 rfl 60 rfl
        have hAp := hAp.add e268
        exact opk_val hAp rfl (r_load1 Try.underlying9 rfl (hAp.get rfl) (Ext.cell hT.chg hx270)) fun _ _ e => ⟨_, e, Chg.refl _ _, fun _ => Eq.refl _⟩
      · intro a w hT
        have hAp := hT.ag hA225 [(3, .pointer (some ⟨B_11, 0, none⟩))] ⟨rfl, trivial⟩ (by kernel_rfl)
        exact opk_val hAp rfl (r_fieldAddr (hAp.get rfl) Try.underlying26 rfl ti_23 (by decide)) fun _ _ e => ⟨_, e, Chg.refl _ _, fun _ => Eq.refl _⟩
      · intro a w hT
        have hAp := hT.ag hA225 [] trivial (by kernel_rfl)
        have e272 : a.tmps.getD 62 undef = .pointer (some ⟨B_11, 3, none⟩) := hT.vals 19 rfl 62 rfl
        have hAp := hAp.add e272
        exact opk_val hAp rfl (r_load1 Try.underlying23 rfl (hAp.get rfl) ((hB231.ext hT.chg).cell 3 _ rfl)) fun _ _ e => ⟨_, e, Chg.refl _ _, fun _ => Eq.refl _⟩
      · intro a w hT
        have hAp := hT.ag hA225 [(6, .int .i64 i_83)] ⟨rfl, trivial⟩ (by kernel_rfl)
        exact opk_val hAp rfl (r_move (hAp.get rfl)) fun _ _ e => ⟨_, e, Chg.refl _ _, fun _ => Eq.refl _⟩
      · intro a w hT
        have hAp := hT.ag hA225 [] trivial (by kernel_rfl)
        have e273 : a.tmps.getD 63 undef = Sl.v b_2_Attrs := hT.vals 20 rfl 63 rfl
        have hAp := hAp.add e273
        have e274 : a.tmps.getD 64 undef = .int .i64 i_83 := hT.vals 21 rfl 64 rfl
        have hAp := hAp.add e274
        exact opk_val hAp rfl (r_indexAddr (hAp.get rfl) (hAp.get rfl) Try.underlying23 ti_33 hp276.1 hp276.2) fun _ _ e => ⟨_, e, Chg.refl _ _, fun _ => Eq.refl _⟩
      · intro a w hT
        have hAp := hT.ag hA225 [] trivial (by kernel_rfl)
        have e278 : a.tmps.getD 65 undef = .pointer (some (p_275.add (i_83.toNat * 2))) := hT.vals 22 rfl 65 rfl
        have hAp := hAp.add e278
        exact opk_val hAp rfl (r_fieldAddr (hAp.get rfl) Try.underlying33 rfl ti_9 (by decide)) fun _ _ e => ⟨_, e, Chg.refl _ _, fun _ => Eq.refl _⟩
      · intro a w hT
        have hAp := hT.ag hA225 [] trivial (by kernel_rfl)
        have e279 : a.tmps.getD 66 undef = .pointer (some ((p_275.add (i_83.toNat * 2)).add 1)) := hT.vals 23 rfl 66 rfl
        have hAp := hAp.add e279
        exact opk_val hAp rfl (r_load1 Try.underlying9 rfl (hAp.get rfl) (Ext.cell hT.chg hx281)) fun _ _ e => ⟨_, e, Chg.refl _ _, fun _ => Eq.refl _⟩
      · intro a w hT
        have hAp := hT.ag hA225 [] trivial (by kernel_rfl)
        have e283 : a.tmps.getD 61 undef = .string (Bs x_269) := hT.vals 18 rfl 61 rfl
        have hAp := hAp.add e283
        have e284 : a.tmps.getD 67 undef = .string (Bs x_280) := hT.vals 24 rfl 67 rfl
        have hAp := hAp.add e284
        exact opk_callX hAp rfl (r_call (args := #[.string (Bs x_269), .string (Bs x_280)]) Try.func42 (by decide) rfl (map_arr (ml_cons (hAp.get rfl) (ml_cons (hAp.get rfl) ml_nil))) rfl) (hc286 w hT.chg) fun _ _ _ _ e hR => ⟨_, e, hR.1, fun _ => hR.2⟩
      · intro a w hT
        have hAp := hT.ag hA225 [] trivial (by kernel_rfl)
        have e288 : a.tmps.getD 55 undef = .int .i64 r_258 := hT.vals 12 rfl 55 rfl
        have hAp := hAp.add e288
        have e289 : a.tmps.getD 68 undef = .int .i64 r_285 := hT.vals 25 rfl 68 rfl
        have hAp := hAp.add e289
        exact opk_new (fun B => .slice (some ⟨B, 0, none⟩) 2 2) hAp rfl (r_buildSlice (vs := #[(0, .int .i64 r_258), (1, .int .i64 r_285)]) (cs := [.int .i64 r_258, .int .i64 r_285]) (map_arr2 (ml2_cons (hAp.get rfl) (ml2_cons (hAp.get rfl) (ml2_nil)))) Try.underlying22 ti_3 rfl rfl (by kernel_rfl)) fun _ w291 B_290 hE292 hN293 hB294 _ e => ⟨_, e, hE292, fun _ => ⟨B_290, Nat.le_trans hT.chg.size hN293.ge, hB294, rfl⟩⟩
      · intro a w hT
        have hAp := hT.ag hA225 [] trivial (by kernel_rfl)
        obtain ⟨B_290, hf296, hf297, e295⟩ := hT.vals 26 rfl 69 rfl
        have hAp := hAp.add e295
        exact opk_callX hAp rfl (r_call (args := #[Sl.v (Sl.mk (some ⟨B_290, 0, none⟩) 2 2)]) Try.func40 (by decide) rfl (map_arr (ml_cons (hAp.get rfl) ml_nil)) rfl) (hc299 B_290 w hT.chg hf296 hf297) fun _ _ _ _ e hR => ⟨_, e, hR.1, fun _ => hR.2⟩
      · intro a w hT
        have hAp := hT.ag hA225 [] trivial (by kernel_rfl)
        have e301 : a.tmps.getD 70 undef = .int .i64 r_298 := hT.vals 27 rfl 70 rfl
        have hAp := hAp.add e301
        exact opk_val hAp rfl (r_assign (hAp.get rfl)) fun _ _ e => ⟨_, e, Chg.refl _ _, fun _ => Eq.refl _⟩
      · intro a302 w303 hE304 hag305 hv306
        have hA302 := hag305 [(2, .pointer (some ⟨B_3, 0, none⟩)), (3, .pointer (some ⟨B_11, 0, none⟩)), (6, .int .i64 i_83)] ⟨rfl, rfl, rfl, trivial⟩ (by kernel_rfl)
        have e308 : a302.tmps.getD 5 undef = .int .i64 r_298 := hv306 28 rfl 5 rfl
        have hA309 := hA302.add e308
        have hB310 := hB230.ext hE304
        have hB311 := hB231.ext hE304
        have hC312 : Chg [] w228 w303 := hE304
        refine PR_end (by kernel_rfl) ?_
        have hA313 := hA309.keep [(2, .pointer (some ⟨B_3, 0, none⟩)), (3, .pointer (some ⟨B_11, 0, none⟩)), (5, .int .i64 r_298), (6, .int .i64 i_83)] ⟨rfl, rfl, rfl, rfl, trivial⟩
        refine block_normal ?_
        refine then_normal ?_
        refine wp_region_lit ?_
        refine sq (opk_val hA313 rfl (r_move (hA313.get rfl)) fun a314 hA314 _ => ?_)
        obtain ⟨hS316, ht317⟩ := ht300
        refine sq (opk_val hA314 rfl (r_addI (hA314.get rfl) rfl hS316) fun a315 hA315 _ => ?_)
        refine sq (opk_val hA315 rfl (r_assign (hA315.get rfl)) fun a318 hA318 _ => ?_)
        refine sq_end ?_
        have hA319 := hA318.keep [(2, .pointer (some ⟨B_3, 0, none⟩)), (3, .pointer (some ⟨B_11, 0, none⟩)), (5, .int .i64 r_298), (6, .int .i64 (i_83 + 1))] ⟨rfl, rfl, rfl, rfl, trivial⟩
        have ht320 := ht317 w303    hC312
        have hA321 := hA319.keep [(2, .pointer (some ⟨B_3, 0, none⟩)), (3, .pointer (some ⟨B_11, 0, none⟩)), (5, .int .i64 r_298), (6, .int .i64 (i_83 + 1))] ⟨rfl, rfl, rfl, rfl, trivial⟩
        exact then_normal ⟨(r_298, i_83 + 1, w303), ⟨hA321, hB310, hB311, rfl, ht320.1⟩, ht320.2⟩
    · have ht227 := ht207.2 ((b_and_f hc).imp (fun h => ((b_and_f h).imp (fun h => (of_decide_eq_false h)) (fun h => (of_decide_eq_false h)))) (fun h => (of_decide_eq_false h)))
      clear hc
      refine wp_exit ?_
      refine then_exit ?_
      refine then_exit ?_
      refine block_hit ?_
      have hA322 := hA225.keep [(2, .pointer (some ⟨B_3, 0, none⟩)), (3, .pointer (some ⟨B_11, 0, none⟩)), (5, .int .i64 x_82)] ⟨rfl, rfl, rfl, trivial⟩
      refine then_normal ?_
      refine wp_seq ?_
      refine wp_region_lit ?_
      refine sq (opk_val hA322 rfl (r_move (hA322.get rfl)) fun a323 hA323 _ => ?_)
      refine sq (opk_val hA323 rfl (r_fieldAddr (hA323.get rfl) Try.underlying26 rfl ti_23 (by decide)) fun a324 hA324 _ => ?_)
      refine sq (opk_val hA324 rfl (r_load1 Try.underlying23 rfl (hA324.get rfl) (hB203.cell 3 _ rfl)) fun a325 hA325 _ => ?_)
      refine sq (opk_val hA325 rfl (r_len (hA325.get rfl) Try.underlying23) fun a326 hA326 _ => ?_)
      refine sq (opk_val hA326 rfl (r_fieldAddr (hA326.get rfl) Try.underlying26 rfl ti_23 (by decide)) fun a327 hA327 _ => ?_)
      refine sq (opk_val hA327 rfl (r_load1 Try.underlying23 rfl (hA327.get rfl) (hB204.cell 3 _ rfl)) fun a328 hA328 _ => ?_)
      refine sq (opk_val hA328 rfl (r_len (hA328.get rfl) Try.underlying23) fun a329 hA329 _ => ?_)
      refine sq (opk_call hA329 rfl (r_call (args := #[.int .i64 (a_1_Attrs.n : Int), .int .i64 (b_2_Attrs.n : Int)]) Try.func41 (by decide) rfl (map_arr (ml_cons (hA329.get rfl) (ml_cons (hA329.get rfl) ml_nil))) rfl) ht227 fun a331 v337 w332 hA331 _ hn334 hz335 hK336 => ?_)
      obtain ⟨r_330, rfl, ht333⟩ := hK336
      have hB338 := hB203.kept hn334 (.head _)
      have hB339 := hB204.kept hn334 (.tail _ (.head _))
      refine sq (opk_new (fun B => .slice (some ⟨B, 0, none⟩) 2 2) hA331 rfl (r_buildSlice (vs := #[(0, .int .i64 x_82), (1, .int .i64 r_330)]) (cs := [.int .i64 x_82, .int .i64 r_330]) (map_arr2 (ml2_cons (hA331.get rfl) (ml2_cons (hA331.get rfl) (ml2_nil)))) Try.underlying22 ti_3 rfl rfl (by kernel_rfl)) fun a342 w341 B_340 hE343 hN344 hB345 hA342 _ => ?_)
      have hne346 : B_3 ≠ B_340 := Nat.ne_of_lt (Nat.lt_of_lt_of_le hB338.lt hN344.ge)
      have hne347 : B_11 ≠ B_340 := Nat.ne_of_lt (Nat.lt_of_lt_of_le hB339.lt hN344.ge)
      have hN348 : New w332 B_340 w341 := hN344
      have hB349 := hB338.ext hE343
      have hB350 := hB339.ext hE343
      have hC351 : Chg [] w332 w341 := hE343
      have ht352 := ht333 w341 B_340 hN348  hC351
      have ht353 := ht352 hB345
      refine sq (opk_call hA342 rfl (r_call (args := #[Sl.v (Sl.mk (some ⟨B_340, 0, none⟩) 2 2)]) Try.func40 (by decide) rfl (map_arr (ml_cons (hA342.get rfl) ml_nil)) rfl) ht353 fun a355 v361 w356 hA355 _ hn358 hz359 hK360 => ?_)
      obtain ⟨r_354, rfl, ht357⟩ := hK360
      have hB362 := hB349.kept hn358 (.head _)
      have hB363 := hB350.kept hn358 (.tail _ (.head _))
      refine sq (opk_val hA355 rfl (r_assign (hA355.get rfl)) fun a364 hA364 _ => ?_)
      refine sq_end ?_
      have hA365 := hA364.keep [(2, .pointer (some ⟨B_3, 0, none⟩)), (3, .pointer (some ⟨B_11, 0, none⟩)), (5, .int .i64 r_354)] ⟨rfl, rfl, rfl, trivial⟩
      refine then_normal ?_
      refine wp_seq ?_
      refine wp_seq ?_
      refine wp_region_lit ?_
      refine sq (opk_val hA365 rfl (r_assign rfl) fun a366 hA366 _ => ?_)
      refine sq_end ?_
      have hA367 := hA366.keep [(2, .pointer (some ⟨B_3, 0, none⟩)), (3, .pointer (some ⟨B_11, 0, none⟩)), (5, .int .i64 r_354), (7, .int .i64 0)] ⟨rfl, rfl, rfl, rfl, trivial⟩
      refine then_normal ?_
      refine wp_block ?_
      obtain ⟨J_371, mu_372, h0449, ht448⟩ := ht357
      refine wp_loop_st (σ := Int × Int × World) (fun s a w => Ag 120 a [(2, .pointer (some ⟨B_3, 0, none⟩)), (3, .pointer (some ⟨B_11, 0, none⟩)), (5, .int .i64 s.1), (7, .int .i64 s.2.1)] ∧ Box w B_3 26 [.int .i64 a_1_Kind, .string (Bs a_1_Name), .string (Bs a_1_Text), Sl.v a_1_Attrs, Sl.v a_1_Kids] ∧ Box w B_11 26 [.int .i64 b_2_Kind, .string (Bs b_2_Name), .string (Bs b_2_Text), Sl.v b_2_Attrs, Sl.v b_2_Kids] ∧ w = s.2.2 ∧ J_371 s.1 s.2.1 s.2.2) (fun s => mu_372 s.1 s.2.1 s.2.2) (r_354, 0, w356) ⟨hA367.keep [(2, .pointer (some ⟨B_3, 0, none⟩)), (3, .pointer (some ⟨B_11, 0, none⟩)), (5, .int .i64 r_354), (7, .int .i64 0)] ⟨rfl, rfl, rfl, rfl, trivial⟩, hB362, hB363, rfl, h0449⟩ ?_
      rintro ⟨x_368, i_369, w370⟩ a445 w_ ⟨hA445, hB446, hB447, hw_, hJ451⟩
      have hw_ : w370 = w_ := hw_.symm
      subst hw_
      have ht450 := ht448 x_368 i_369 _ hJ451
      refine wp_seq ?_
      refine wp_seq ?_
      refine wp_region_lit ?_
      refine sq (opk_val hA445 rfl (r_move (hA445.get rfl)) fun a452 hA452 _ => ?_)
      refine sq (opk_val hA452 rfl (r_eql (hA452.get rfl) rfl) fun a453 hA453 _ => ?_)
      refine sq (opk_val hA453 rfl (r_move (hA453.get rfl)) fun a454 hA454 _ => ?_)
      refine sq (opk_gval hA454 rfl rfl (g := true) (e := (decide (x_368 = 0))) rfl (fun hg => r_move (hA454.get rfl)) fun a455 hA455 _ => ?_)
      refine sq (opk_gval hA455 rfl rfl (g := true) (e := (decide (x_368 = 0))) rfl (fun hg => r_fieldAddr (hA455.get rfl) Try.underlying26 rfl ti_24 (by decide)) fun a456 hA456 _ => ?_)
      refine sq (opk_gval hA456 rfl rfl (g := true) (e := (decide (x_368 = 0))) rfl (fun hg => r_load1 Try.underlying24 rfl (cv_get (hA456.get rfl) hg) (hB446.cell 4 _ rfl)) fun a457 hA457 _ => ?_)
      refine sq (opk_gval hA457 rfl rfl (g := true) (e := (decide (x_368 = 0))) rfl (fun hg => r_len (cv_get (hA457.get rfl) hg) Try.underlying24) fun a458 hA458 _ => ?_)
      refine sq (opk_gval hA458 rfl rfl (g := true) (e := (decide (x_368 = 0))) rfl (fun hg => r_lss (cv_get (hA458.get rfl) hg) (cv_get (hA458.get rfl) hg)) fun a459 hA459 _ => ?_)
      refine sq (opk_val hA459 rfl (r_pick_and (g := (true && ((decide (x_368 = 0)) == true))) (hA459.get rfl) (hA459.get rfl) (fun he => g_mkt rfl he)) fun a460 hA460 _ => ?_)
      refine sq (opk_val hA460 rfl (r_move (hA460.get rfl)) fun a461 hA461 _ => ?_)
      refine sq (opk_gval hA461 rfl rfl (g := true) (e := ((decide (x_368 = 0)) && (decide (i_369 < (a_1_Kids.n : Int))))) rfl (fun hg => r_move (hA461.get rfl)) fun a462 hA462 _ => ?_)
      refine sq (opk_gval hA462 rfl rfl (g := true) (e := ((decide (x_368 = 0)) && (decide (i_369 < (a_1_Kids.n : Int))))) rfl (fun hg => r_fieldAddr (hA462.get rfl) Try.underlying26 rfl ti_24 (by decide)) fun a463 hA463 _ => ?_)
      refine sq (opk_gval hA463 rfl rfl (g := true) (e := ((decide (x_368 = 0)) && (decide (i_369 < (a_1_Kids.n : Int))))) rfl (fun hg => r_load1 Try.underlying24 rfl (cv_get (hA463.get rfl) hg) (hB447.cell 4 _ rfl)) fun a464 hA464 _ => ?_)
      refine sq (opk_gval hA464 rfl rfl (g := true) (e := ((decide (x_368 = 0)) && (decide (i_369 < (a_1_Kids.n : Int))))) rfl (fun hg => r_len (cv_get (hA464.get rfl) hg) Try.underlying24) fun a465 hA465 _ => ?_)
      refine sq (opk_gval hA465 rfl rfl (g := true) (e := ((decide (x_368 = 0)) && (decide (i_369 < (a_1_Kids.n : Int))))) rfl (fun hg => r_lss (cv_get (hA465.get rfl) hg) (cv_get (hA465.get rfl) hg)) fun a466 hA466 _ => ?_)
      refine sq (opk_val hA466 rfl (r_pick_and (g := (true && (((decide (x_368 = 0)) && (decide (i_369 < (a_1_Kids.n : Int)))) == true))) (hA466.get rfl) (hA466.get rfl) (fun he => g_mkt rfl he)) fun a467 hA467 _ => ?_)
      refine sq_end ?_
      have hA468 := hA467.keep [(2, .pointer (some ⟨B_3, 0, none⟩)), (3, .pointer (some ⟨B_11, 0, none⟩)), (5, .int .i64 x_368), (7, .int .i64 i_369), (96, .bool (((decide (x_368 = 0)) && (decide (i_369 < (a_1_Kids.n : Int)))) && (decide (i_369 < (b_2_Kids.n : Int)))))] ⟨rfl, rfl, rfl, rfl, rfl, trivial⟩
      refine then_normal ?_
      refine wp_cond_split (hA468.get rfl) (fun hc => ?_) (fun hc => ?_)
      · have ht469 := ht450.1 ⟨⟨(of_decide_eq_true (b_and_t (b_and_t hc).1).1), (of_decide_eq_true (b_and_t (b_and_t hc).1).2)⟩, (of_decide_eq_true (b_and_t hc).2)⟩
        clear hc
        refine wp_skip ?_
        refine then_normal ?_
        refine wp_seq ?_
        refine wp_block ?_
        refine draw' (by kernel_rfl) fun w471 hE472 => ?_
        have hB473 := hB446.ext hE472
        have hB474 := hB447.ext hE472
        have hC475 : Chg [] w370 w471 := hE472
        have ht476 := ht469 w471    hC475
        obtain ⟨p_480, hp481, ht482⟩ := ht476
        obtain ⟨x_484_Kind, x_484_Name, x_484_Text, x_484_Attrs, x_484_Kids, hx485, ht486⟩ := ht482
        obtain ⟨p_490, hp491, ht492⟩ := ht486
        obtain ⟨x_494_Kind, x_494_Name, x_494_Text, x_494_Attrs, x_494_Kids, hx495, ht496⟩ := ht492
        obtain ⟨r_499, hc500, ht501⟩ := ht496
        refine par (D := [[], [0], [], [0, 1, 2], [0, 1, 2, 3], [], [5], [], [5, 6, 7], [5, 6, 7, 8], [0, 1, 2, 3, 4, 5, 6, 7, 8, 9], [0, 1, 2, 3, 4, 5, 6, 7, 8, 9, 10]]) (S := [0, 1, 2, 3, 4, 5, 6, 7, 8, 9, 10, 11]) (F := []) (V := VL [(0, fun v _ => v = .pointer (some ⟨B_3, 4, none⟩)), (1, fun v _ => v = Sl.v a_1_Kids), (2, fun v _ => v = .int .i64 i_369), (3, fun v _ => v = .pointer (some (p_480.add (i_369.toNat * 5)))), (4, fun v _ => v = .agg #[.int .i64 x_484_Kind, .string (Bs x_484_Name), .string (Bs x_484_Text), Sl.v x_484_Attrs, Sl.v x_484_Kids]), (5, fun v _ => v = .pointer (some ⟨B_11, 4, none⟩)), (6, fun v _ => v = Sl.v b_2_Kids), (7, fun v _ => v = .int .i64 i_369), (8, fun v _ => v = .pointer (some (p_490.add (i_369.toNat * 5)))), (9, fun v _ => v = .agg #[.int .i64 x_494_Kind, .string (Bs x_494_Name), .string (Bs x_494_Text), Sl.v x_494_Attrs, Sl.v x_494_Kids]), (10, fun v _ => v = .int .i64 r_499), (11, fun v _ => v = .int .i64 r_499)]) hA468 (by kernel_rfl) ⟨fun _ _ _ _ h => by first | exact h | (change _ = _ at h; change _ = _; exact h), fun _ _ _ _ h => by first | exact h | (change _ = _ at h; change _ = _; exact h), fun _ _ _ _ h => by first | exact h | (change _ = _ at h; change _ = _; exact h), fun _ _ _ _ h => by first | exact h | (change _ = _ at h; change _ = _; exact h), fun _ _ _ _ h => by first | exact h | (change _ = _ at h; change _ = _; exact h), fun _ _ _ _ h => by first | exact h | (change _ = _ at h; change _ = _; exact h), fun _ _ _ _ h => by first | exact h | (change _ = _ at h; change _ = _; exact h), fun _ _ _ _ h => by first | exact h | (change _ = _ at h; change _ = _; exact h), fun _ _ _ _ h => by first | exact h | (change _ = _ at h; change _ = _; exact h), fun _ _ _ _ h => by first | exact h | (change _ = _ at h; change _ = _; exact h), fun _ _ _ _ h => by first | exact h | (change _ = _ at h; change _ = _; exact h), fun _ _ _ _ h => by first | exact h | (change _ = _ at h; change _ = _; exact h), trivial⟩ ⟨?_, ?_, ?_, ?_, ?_, ?_, ?_, ?_, ?_, ?_, ?_, ?_, trivial⟩ ?_
        · intro a w hT
          have hAp := hT.ag hA468 [(2, .pointer (some ⟨B_3, 0, none⟩))] ⟨rfl, trivial⟩ (by kernel_rfl)
          exact opk_val hAp rfl (r_fieldAddr (hAp.get rfl) Try.underlying26 rfl ti_24 (by decide)) fun _ _ e => ⟨_, e, Chg.refl _ _, fun _ => Eq.refl _⟩
        · intro a w hT
          have hAp := hT.ag hA468 [] trivial (by kernel_rfl)
          have e477 : a.tmps.getD 99 undef = .pointer (some ⟨B_3, 4, none⟩) := hT.vals 0 rfl 99 rfl
          have hAp := hAp.add e477
          exact opk_val hAp rfl (r_load1 Try.underlying24 rfl (hAp.get rfl) ((hB473.ext hT.chg).cell 4 _ rfl)) fun _ _ e => ⟨_, e, Chg.refl _ _, fun _ => Eq.refl _⟩
        · intro a w hT
          have hAp := hT.ag hA468 [(7, .int .i64 i_369)] ⟨rfl, trivial⟩ (by kernel_rfl)
          exact opk_val hAp rfl (r_move (hAp.get rfl)) fun _ _ e => ⟨_, e, Chg.refl _ _, fun _ => Eq.refl _⟩
        · intro a w hT
          have hAp := hT.ag hA468 [] trivial (by kernel_rfl)
          have e478 : a.tmps.getD 100 undef = Sl.v a_1_Kids := hT.vals 1 rfl 100 rfl
          have hAp := hAp.add e478
          have e479 : a.tmps.getD 101 undef = .int .i64 i_369 := hT.vals 2 rfl 101 rfl
          have hAp := hAp.add e479
          exact opk_val hAp rfl (r_indexAddr (hAp.get rfl) (hAp.get rfl) Try.underlying24 ti_26 hp481.1 hp481.2) fun _ _ e => ⟨_, e, Chg.refl _ _, fun _ => Eq.refl _⟩
        · intro a w hT
          have hAp := hT.ag hA468 [] trivial (by kernel_rfl)
          have e483 : a.tmps.getD 102 undef = .pointer (some (p_480.add (i_369.toNat * 5))) := hT.vals 3 rfl 102 rfl
          have hAp := hAp.add e483
          exact opk_val hAp rfl (r_loadN Try.underlying26 rfl ti_26 (hAp.get rfl) (hx485.ext hT.chg)) fun _ _ e => ⟨_, e, Chg.refl _ _, fun _ => Eq.refl _⟩
        · intro a w hT
          have hAp := hT.ag hA468 [(3, .pointer (some ⟨B_11, 0, none⟩))] ⟨rfl, trivial⟩ (by kernel_rfl)
          exact opk_val hAp rfl (r_fieldAddr (hAp.get rfl) Try.underlying26 rfl ti_24 (by decide)) fun _ _ e => ⟨_, e, Chg.refl _ _, fun _ => Eq.refl _⟩
        · intro a w hT
          have hAp := hT.ag hA468 [] trivial (by kernel_rfl)
          have e487 : a.tmps.getD 104 undef = .pointer (some ⟨B_11, 4, none⟩) := hT.vals 5 rfl 104 rfl
          have hAp := hAp.add e487
          exact opk_val hAp rfl (r_load1 Try.underlying24 rfl (hAp.get rfl) ((hB474.ext hT.chg).cell 4 _ rfl)) fun _ _ e => ⟨_, e, Chg.refl _ _, fun _ => Eq.refl _⟩
        · intro a w hT
          have hAp := hT.ag hA468 [(7, .int .i64 i_369)] ⟨rfl, trivial⟩ (by kernel_rfl)
          exact opk_val hAp rfl (r_move (hAp.get rfl)) fun _ _ e => ⟨_, e, Chg.refl _ _, fun _ => Eq.refl _⟩
        · intro a w hT
          have hAp := hT.ag hA468 [] trivial (by kernel_rfl)
          have e488 : a.tmps.getD 105 undef = Sl.v b_2_Kids := hT.vals 6 rfl 105 rfl
          have hAp := hAp.add e488
          have e489 : a.tmps.getD 106 undef = .int .i64 i_369 := hT.vals 7 rfl 106 rfl
          have hAp := hAp.add e489
          exact opk_val hAp rfl (r_indexAddr (hAp.get rfl) (hAp.get rfl) Try.underlying24 ti_26 hp491.1 hp491.2) fun _ _ e => ⟨_, e, Chg.refl _ _, fun _ => Eq.refl _⟩
        · intro a w hT
          have hAp := hT.ag hA468 [] trivial (by kernel_rfl)
          have e493 : a.tmps.getD 107 undef = .pointer (some (p_490.add (i_369.toNat * 5))) := hT.vals 8 rfl 107 rfl
          have hAp := hAp.add e493
          exact opk_val hAp rfl (r_loadN Try.underlying26 rfl ti_26 (hAp.get rfl) (hx495.ext hT.chg)) fun _ _ e => ⟨_, e, Chg.refl _ _, fun _ => Eq.refl _⟩
        · intro a w hT
          have hAp := hT.ag hA468 [] trivial (by kernel_rfl)
          have e497 : a.tmps.getD 103 undef = .agg #[.int .i64 x_484_Kind, .string (Bs x_484_Name), .string (Bs x_484_Text), Sl.v x_484_Attrs, Sl.v x_484_Kids] := hT.vals 4 rfl 103 rfl
          have hAp := hAp.add e497
          have e498 : a.tmps.getD 108 undef = .agg #[.int .i64 x_494_Kind, .string (Bs x_494_Name), .string (Bs x_494_Text), Sl.v x_494_Attrs, Sl.v x_494_Kids] := hT.vals 9 rfl 108 rfl
          have hAp := hAp.add e498
          exact opk_callX hAp rfl (r_call (args := #[.agg #[.int .i64 x_484_Kind, .string (Bs x_484_Name), .string (Bs x_484_Text), Sl.v x_484_Attrs, Sl.v x_484_Kids], .agg #[.int .i64 x_494_Kind, .string (Bs x_494_Name), .string (Bs x_494_Text), Sl.v x_494_Attrs, Sl.v x_494_Kids]]) Try.func24 (by decide) rfl (map_arr (ml_cons (hAp.get rfl) (ml_cons (hAp.get rfl) ml_nil))) rfl) (hc500 w hT.chg) fun _ _ _ _ e hR => ⟨_, e, hR.1, fun _ => hR.2⟩
        · intro a w hT
          have hAp := hT.ag hA468 [] trivial (by kernel_rfl)
          have e502 : a.tmps.getD 109 undef = .int .i64 r_499 := hT.vals 10 rfl 109 rfl
          have hAp := hAp.add e502
          exact opk_val hAp rfl (r_assign (hAp.get rfl)) fun _ _ e => ⟨_, e, Chg.refl _ _, fun _ => Eq.refl _⟩
        · intro a503 w504 hE505 hag506 hv507
          have hA503 := hag506 [(2, .pointer (some ⟨B_3, 0, none⟩)), (3, .pointer (some ⟨B_11, 0, none⟩)), (7, .int .i64 i_369)] ⟨rfl, rfl, rfl, trivial⟩ (by kernel_rfl)
          have e509 : a503.tmps.getD 5 undef = .int .i64 r_499 := hv507 11 rfl 5 rfl
          have hA510 := hA503.add e509
          have hB511 := hB473.ext hE505
          have hB512 := hB474.ext hE505
          have hC513 : Chg [] w471 w504 := hE505
          refine PR_end (by kernel_rfl) ?_
          have hA514 := hA510.keep [(2, .pointer (some ⟨B_3, 0, none⟩)), (3, .pointer (some ⟨B_11, 0, none⟩)), (5, .int .i64 r_499), (7, .int .i64 i_369)] ⟨rfl, rfl, rfl, rfl, trivial⟩
          refine block_normal ?_
          refine then_normal ?_
          refine wp_region_lit ?_
          refine sq (opk_val hA514 rfl (r_move (hA514.get rfl)) fun a515 hA515 _ => ?_)
          obtain ⟨hS517, ht518⟩ := ht501
          refine sq (opk_val hA515 rfl (r_addI (hA515.get rfl) rfl hS517) fun a516 hA516 _ => ?_)
          refine sq (opk_val hA516 rfl (r_assign (hA516.get rfl)) fun a519 hA519 _ => ?_)
          refine sq_end ?_
          have hA520 := hA519.keep [(2, .pointer (some ⟨B_3, 0, none⟩)), (3, .pointer (some ⟨B_11, 0, none⟩)), (5, .int .i64 r_499), (7, .int .i64 (i_369 + 1))] ⟨rfl, rfl, rfl, rfl, trivial⟩
          have ht521 := ht518 w504    hC513
          have hA522 := hA520.keep [(2, .pointer (some ⟨B_3, 0, none⟩)), (3, .pointer (some ⟨B_11, 0, none⟩)), (5, .int .i64 r_499), (7, .int .i64 (i_369 + 1))] ⟨rfl, rfl, rfl, rfl, trivial⟩
          exact then_normal ⟨(r_499, i_369 + 1, w504), ⟨hA522, hB511, hB512, rfl, ht521.1⟩, ht521.2⟩
      · have ht470 := ht450.2 ((b_and_f hc).imp (fun h => ((b_and_f h).imp (fun h => (of_decide_eq_false h)) (fun h => (of_decide_eq_false h)))) (fun h => (of_decide_eq_false h)))
        clear hc
        refine wp_exit ?_
        refine then_exit ?_
        refine then_exit ?_
        refine block_hit ?_
        have hA523 := hA468.keep [(2, .pointer (some ⟨B_3, 0, none⟩)), (3, .pointer (some ⟨B_11, 0, none⟩)), (5, .int .i64 x_368)] ⟨rfl, rfl, rfl, trivial⟩
        refine then_normal ?_
        refine wp_seq ?_
        refine wp_region_lit ?_
        refine sq (opk_val hA523 rfl (r_move (hA523.get rfl)) fun a524 hA524 _ => ?_)
        refine sq (opk_val hA524 rfl (r_fieldAddr (hA524.get rfl) Try.underlying26 rfl ti_24 (by decide)) fun a525 hA525 _ => ?_)
        refine sq (opk_val hA525 rfl (r_load1 Try.underlying24 rfl (hA525.get rfl) (hB446.cell 4 _ rfl)) fun a526 hA526 _ => ?_)
        refine sq (opk_val hA526 rfl (r_len (hA526.get rfl) Try.underlying24) fun a527 hA527 _ => ?_)
        refine sq (opk_val hA527 rfl (r_fieldAddr (hA527.get rfl) Try.underlying26 rfl ti_24 (by decide)) fun a528 hA528 _ => ?_)
        refine sq (opk_val hA528 rfl (r_load1 Try.underlying24 rfl (hA528.get rfl) (hB447.cell 4 _ rfl)) fun a529 hA529 _ => ?_)
        refine sq (opk_val hA529 rfl (r_len (hA529.get rfl) Try.underlying24) fun a530 hA530 _ => ?_)
        refine sq (opk_call hA530 rfl (r_call (args := #[.int .i64 (a_1_Kids.n : Int), .int .i64 (b_2_Kids.n : Int)]) Try.func41 (by decide) rfl (map_arr (ml_cons (hA530.get rfl) (ml_cons (hA530.get rfl) ml_nil))) rfl) ht470 fun a532 v538 w533 hA532 _ hn535 hz536 hK537 => ?_)
        obtain ⟨r_531, rfl, ht534⟩ := hK537
        have hB539 := hB446.kept hn535 (.head _)
        have hB540 := hB447.kept hn535 (.tail _ (.head _))
        refine sq (opk_new (fun B => .slice (some ⟨B, 0, none⟩) 2 2) hA532 rfl (r_buildSlice (vs := #[(0, .int .i64 x_368), (1, .int .i64 r_531)]) (cs := [.int .i64 x_368, .int .i64 r_531]) (map_arr2 (ml2_cons (hA532.get rfl) (ml2_cons (hA532.get rfl) (ml2_nil)))) Try.underlying22 ti_3 rfl rfl (by kernel_rfl)) fun a543 w542 B_541 hE544 hN545 hB546 hA543 _ => ?_)
        have hne547 : B_3 ≠ B_541 := Nat.ne_of_lt (Nat.lt_of_lt_of_le hB539.lt hN545.ge)
        have hne548 : B_11 ≠ B_541 := Nat.ne_of_lt (Nat.lt_of_lt_of_le hB540.lt hN545.ge)
        have hN549 : New w533 B_541 w542 := hN545
        have hB550 := hB539.ext hE544
        have hB551 := hB540.ext hE544
        have hC552 : Chg [] w533 w542 := hE544
        have ht553 := ht534 w542 B_541 hN549  hC552
        have ht554 := ht553 hB546
        refine sq (opk_call hA543 rfl (r_call (args := #[Sl.v (Sl.mk (some ⟨B_541, 0, none⟩) 2 2)]) Try.func40 (by decide) rfl (map_arr (ml_cons (hA543.get rfl) ml_nil)) rfl) ht554 fun a556 v562 w557 hA556 _ hn559 hz560 hK561 => ?_)
        obtain ⟨r_555, rfl, ht558⟩ := hK561
        have hB563 := hB550.kept hn559 (.head _)
        have hB564 := hB551.kept hn559 (.tail _ (.head _))
        refine sq (opk_val hA556 rfl (r_assign (hA556.get rfl)) fun a565 hA565 _ => ?_)
        refine sq_end ?_
        have hA566 := hA565.keep [(4, .int .i64 r_555)] ⟨rfl, trivial⟩
        refine then_normal ?_
        refine wp_ret ?_
        exact res_all (vs := [.int .i64 r_555]) rfl hA566 ⟨res_of_tmp hA566 rfl, trivial⟩ ht558

/-- The condition of topiary/tree.Same. -/
def tree_Same.vc (a_1_Kind : Int) (a_1_Name : Str) (a_1_Text : Str) (a_1_Attrs : Sl) (a_1_Kids : Sl) (b_2_Kind : Int) (b_2_Name : Str) (b_2_Text : Str) (b_2_Attrs : Sl) (b_2_Kids : Sl) (R : Value → World → Prop) (w : World) : Prop :=
((((((a_1_Kind ≠ b_2_Kind) ∨ (a_1_Name ≠ b_2_Name)) ∨ (a_1_Text ≠ b_2_Text)) ∨ ((a_1_Attrs.n : Int) ≠ (b_2_Attrs.n : Int))) ∨ ((a_1_Kids.n : Int) ≠ (b_2_Kids.n : Int))) →
∀ (w12 : World) (B_3 : Nat) (B_11 : Nat), New w B_3 w12 → New w B_11 w12 → B_3 ≠ B_11 → Chg [] w w12 →
R (.bool false) w12) ∧
((((((¬ (a_1_Kind ≠ b_2_Kind)) ∧ (¬ (a_1_Name ≠ b_2_Name))) ∧ (¬ (a_1_Text ≠ b_2_Text))) ∧ (¬ ((a_1_Attrs.n : Int) ≠ (b_2_Attrs.n : Int)))) ∧ (¬ ((a_1_Kids.n : Int) ≠ (b_2_Kids.n : Int)))) →
∀ (w12 : World) (B_3 : Nat) (B_11 : Nat), New w B_3 w12 → New w B_11 w12 → B_3 ≠ B_11 → Chg [] w w12 →
∃ (J_74 : Int → World → Prop) (mu_75 : Int → World → Nat),
J_74 0 w12 ∧
(∀ (x_72 : Int) (w73 : World), J_74 x_72 w73 →
((x_72 < (a_1_Attrs.n : Int)) →
((0 : Int) ≤ x_72 ∧ x_72 < (a_1_Attrs.n : Int)) ∧ ∃ p_171 : Addr, a_1_Attrs.a = some p_171 ∧
∃ (x_177_Name : Str) (x_177_Value : Str), (Cells w73 (p_171.add (x_72.toNat * 2)) [.string (Bs x_177_Name), .string (Bs x_177_Value)]) ∧
∀ (w203 : World) (B_180 : Nat), New w73 B_180 w203 → Chg [] w73 w203 →
∃ p_214 : Addr, (((0 : Int) ≤ x_72 ∧ x_72 < (b_2_Attrs.n : Int)) ∧ b_2_Attrs.a = some p_214) ∧
∃ (x_218_Name : Str) (x_218_Value : Str), (Cells w203 (p_214.add (x_72.toNat * 2)) [.string (Bs x_218_Name), .string (Bs x_218_Value)]) ∧
((¬ (x_177_Name = x_218_Name ∧ x_177_Value = x_218_Value)) →
∀ (w224 : World), Chg [] w203 w224 →
R (.bool false) w224) ∧
((¬ (¬ (x_177_Name = x_218_Name ∧ x_177_Value = x_218_Value))) →
(I64 (x_72 + 1)) ∧
∀ (w224 : World), Chg [] w203 w224 →
J_74 (x_72 + 1) w224 ∧ mu_75 (x_72 + 1) w224 < mu_75 x_72 w73)) ∧
((¬ (x_72 < (a_1_Attrs.n : Int))) →
∃ (J_256 : Int → World → Prop) (mu_257 : Int → World → Nat),
J_256 0 w73 ∧
(∀ (x_254 : Int) (w255 : World), J_256 x_254 w255 →
((x_254 < (a_1_Kids.n : Int)) →
((0 : Int) ≤ x_254 ∧ x_254 < (a_1_Kids.n : Int)) ∧ ∃ p_349 : Addr, a_1_Kids.a = some p_349 ∧
∃ (x_355_Kind : Int) (x_355_Name : Str) (x_355_Text : Str) (x_355_Attrs : Sl) (x_355_Kids : Sl), (Cells w255 (p_349.add (x_254.toNat * 5)) [.int .i64 x_355_Kind, .string (Bs x_355_Name), .string (Bs x_355_Text), Sl.v x_355_Attrs, Sl.v x_355_Kids]) ∧
∀ (w378 : World) (B_358 : Nat), New w255 B_358 w378 → Chg [] w255 w378 →
∃ p_388 : Addr, (((0 : Int) ≤ x_254 ∧ x_254 < (b_2_Kids.n : Int)) ∧ b_2_Kids.a = some p_388) ∧
∃ (x_392_Kind : Int) (x_392_Name : Str) (x_392_Text : Str) (x_392_Attrs : Sl) (x_392_Kids : Sl), (Cells w378 (p_388.add (x_254.toNat * 5)) [.int .i64 x_392_Kind, .string (Bs x_392_Name), .string (Bs x_392_Text), Sl.v x_392_Attrs, Sl.v x_392_Kids]) ∧
∃ (r_397 : Bool), (∀ w' : World, Ext w378 w' → Calls Try.prog 25 #[.agg #[.int .i64 x_355_Kind, .string (Bs x_355_Name), .string (Bs x_355_Text), Sl.v x_355_Attrs, Sl.v x_355_Kids], .agg #[.int .i64 x_392_Kind, .string (Bs x_392_Name), .string (Bs x_392_Text), Sl.v x_392_Attrs, Sl.v x_392_Kids]] w' (Ret fun v w'' => Ext w' w'' ∧ v = .bool r_397)) ∧
((r_397 = false) →
∀ (w402 : World), Chg [] w378 w402 →
R (.bool false) w402) ∧
((r_397 = true) →
(I64 (x_254 + 1)) ∧
∀ (w402 : World), Chg [] w378 w402 →
J_256 (x_254 + 1) w402 ∧ mu_257 (x_254 + 1) w402 < mu_257 x_254 w255)) ∧
((¬ (x_254 < (a_1_Kids.n : Int))) →
R (.bool true) w255)))))
set_option maxHeartbeats 1000000 in
set_option maxRecDepth 10000 in
theorem tree_Same.ok (a_1_Kind : Int) (a_1_Name : Str) (a_1_Text : Str) (a_1_Attrs : Sl) (a_1_Kids : Sl) (b_2_Kind : Int) (b_2_Name : Str) (b_2_Text : Str) (b_2_Attrs : Sl) (b_2_Kids : Sl) {R : Value → World → Prop} {w : World} (ht0 : tree_Same.vc a_1_Kind a_1_Name a_1_Text a_1_Attrs a_1_Kids b_2_Kind b_2_Name b_2_Text b_2_Attrs b_2_Kids R w) : Calls Try.prog 25 #[.agg #[.int .i64 a_1_Kind, .string (Bs a_1_Name), .string (Bs a_1_Text), Sl.v a_1_Attrs, Sl.v a_1_Kids], .agg #[.int .i64 b_2_Kind, .string (Bs b_2_Name), .string (Bs b_2_Text), Sl.v b_2_Attrs, Sl.v b_2_Kids]] w (Ret R) := by
  refine enter [.agg #[.int .i64 a_1_Kind, .string (Bs a_1_Name), .string (Bs a_1_Text), Sl.v a_1_Attrs, Sl.v a_1_Kids], .agg #[.int .i64 b_2_Kind, .string (Bs b_2_Name), .string (Bs b_2_Text), Sl.v b_2_Attrs, Sl.v b_2_Kids]] Try.func25 rfl Try.ntmps25 rfl ?_
  intro a0 hA0
  unfold tree_Same.vc at ht0
  refine wp_seq ?_
  refine wp_region_lit ?_
  refine sq (opk_new (fun B => .pointer (some ⟨B, 0, none⟩)) hA0 rfl (r_box (cs := [.int .i64 a_1_Kind, .string (Bs a_1_Name), .string (Bs a_1_Text), Sl.v a_1_Attrs, Sl.v a_1_Kids]) (hA0.get rfl) rfl) fun a5 w4 B_3 hE6 hN7 hB8 hA5 _ => ?_)
  have hN9 : New w B_3 w4 := hN7
  have hC10 : Chg [] w w4 := hE6
  refine sq (opk_new (fun B => .pointer (some ⟨B, 0, none⟩)) hA5 rfl (r_box (cs := [.int .i64 b_2_Kind, .string (Bs b_2_Name), .string (Bs b_2_Text), Sl.v b_2_Attrs, Sl.v b_2_Kids]) (hA5.get rfl) rfl) fun a13 w12 B_11 hE14 hN15 hB16 hA13 _ => ?_)
  have hne17 : B_3 ≠ B_11 := Nat.ne_of_lt (Nat.lt_of_lt_of_le hB8.lt hN15.ge)
  have hN18 := New.of hC10 hN15
  have hB19 := hB8.ext hE14
  have hC20 := hC10.more hE14
  have hN21 := hN9.up hE14.size
  refine sq (opk_val hA13 rfl (r_assign rfl) fun a22 hA22 _ => ?_)
  refine sq_end ?_
  have hA23 := hA22.keep [(2, .pointer (some ⟨B_3, 0, none⟩)), (3, .pointer (some ⟨B_11, 0, none⟩))] ⟨rfl, rfl, trivial⟩
  refine then_normal ?_
  refine wp_seq ?_
  refine wp_seq ?_
  refine wp_region_lit ?_
  refine sq (opk_val hA23 rfl (r_fieldAddr (hA23.get rfl) Try.underlying26 rfl ti_3 (by decide)) fun a24 hA24 _ => ?_)
  refine sq (opk_val hA24 rfl (r_load1 Try.underlying3 rfl (hA24.get rfl) (hB19.cell 0 _ rfl)) fun a25 hA25 _ => ?_)
  refine sq (opk_val hA25 rfl (r_fieldAddr (hA25.get rfl) Try.underlying26 rfl ti_3 (by decide)) fun a26 hA26 _ => ?_)
  refine sq (opk_val hA26 rfl (r_load1 Try.underlying3 rfl (hA26.get rfl) (hB16.cell 0 _ rfl)) fun a27 hA27 _ => ?_)
  refine sq (opk_val hA27 rfl (r_neq (hA27.get rfl) (hA27.get rfl)) fun a28 hA28 _ => ?_)
  refine sq (opk_val hA28 rfl (r_move (hA28.get rfl)) fun a29 hA29 _ => ?_)
  refine sq (opk_gval hA29 rfl rfl (g := true) (e := (decide (a_1_Kind ≠ b_2_Kind))) rfl (fun hg => r_fieldAddr (hA29.get rfl) Try.underlying26 rfl ti_9 (by decide)) fun a30 hA30 _ => ?_)
  refine sq (opk_gval hA30 rfl rfl (g := true) (e := (decide (a_1_Kind ≠ b_2_Kind))) rfl (fun hg => r_load1 Try.underlying9 rfl (cv_get (hA30.get rfl) hg) (hB19.cell 1 _ rfl)) fun a31 hA31 _ => ?_)
  refine sq (opk_gval hA31 rfl rfl (g := true) (e := (decide (a_1_Kind ≠ b_2_Kind))) rfl (fun hg => r_fieldAddr (hA31.get rfl) Try.underlying26 rfl ti_9 (by decide)) fun a32 hA32 _ => ?_)
  refine sq (opk_gval hA32 rfl rfl (g := true) (e := (decide (a_1_Kind ≠ b_2_Kind))) rfl (fun hg => r_load1 Try.underlying9 rfl (cv_get (hA32.get rfl) hg) (hB16.cell 1 _ rfl)) fun a33 hA33 _ => ?_)
  refine sq (opk_gval hA33 rfl rfl (g := true) (e := (decide (a_1_Kind ≠ b_2_Kind))) rfl (fun hg => r_sneq (cv_get (hA33.get rfl) hg) (cv_get (hA33.get rfl) hg)) fun a34 hA34 _ => ?_)
  refine sq (opk_val hA34 rfl (r_pick_or (g := (true && ((decide (a_1_Kind ≠ b_2_Kind)) == false))) (hA34.get rfl) (hA34.get rfl) (fun he => g_mkf rfl he)) fun a35 hA35 _ => ?_)
  refine sq (opk_val hA35 rfl (r_move (hA35.get rfl)) fun a36 hA36 _ => ?_)
  refine sq (opk_gval hA36 rfl rfl (g := true) (e := ((decide (a_1_Kind ≠ b_2_Kind)) || (decide (a_1_Name ≠ b_2_Name)))) rfl (fun hg => r_fieldAddr (hA36.get rfl) Try.underlying26 rfl ti_9 (by decide)) fun a37 hA37 _ => ?_)
  refine sq (opk_gval hA37 rfl rfl (g := true) (e := ((decide (a_1_Kind ≠ b_2_Kind)) || (decide (a_1_Name ≠ b_2_Name)))) rfl (fun hg => r_load1 Try.underlying9 rfl (cv_get (hA37.get rfl) hg) (hB19.cell 2 _ rfl)) fun a38 hA38 _ => ?_)
  refine sq (opk_gval hA38 rfl rfl (g := true) (e := ((decide (a_1_Kind ≠ b_2_Kind)) || (decide (a_1_Name ≠ b_2_Name)))) rfl (fun hg => r_fieldAddr (hA38.get rfl) Try.underlying26 rfl ti_9 (by decide)) fun a39 hA39 _ => ?_)
  refine sq (opk_gval hA39 rfl rfl (g := true) (e := ((decide (a_1_Kind ≠ b_2_Kind)) || (decide (a_1_Name ≠ b_2_Name)))) rfl (fun hg => r_load1 Try.underlying9 rfl (cv_get (hA39.get rfl) hg) (hB16.cell 2 _ rfl)) fun a40 hA40 _ => ?_)
  refine sq (opk_gval hA40 rfl rfl (g := true) (e := ((decide (a_1_Kind ≠ b_2_Kind)) || (decide (a_1_Name ≠ b_2_Name)))) rfl (fun hg => r_sneq (cv_get (hA40.get rfl) hg) (cv_get (hA40.get rfl) hg)) fun a41 hA41 _ => ?_)
  refine sq (opk_val hA41 rfl (r_pick_or (g := (true && (((decide (a_1_Kind ≠ b_2_Kind)) || (decide (a_1_Name ≠ b_2_Name))) == false))) (hA41.get rfl) (hA41.get rfl) (fun he => g_mkf rfl he)) fun a42 hA42 _ => ?_)
  refine sq (opk_val hA42 rfl (r_move (hA42.get rfl)) fun a43 hA43 _ => ?_)
  refine sq (opk_gval hA43 rfl rfl (g := true) (e := (((decide (a_1_Kind ≠ b_2_Kind)) || (decide (a_1_Name ≠ b_2_Name))) || (decide (a_1_Text ≠ b_2_Text)))) rfl (fun hg => r_fieldAddr (hA43.get rfl) Try.underlying26 rfl ti_23 (by decide)) fun a44 hA44 _ => ?_)
  refine sq (opk_gval hA44 rfl rfl (g := true) (e := (((decide (a_1_Kind ≠ b_2_Kind)) || (decide (a_1_Name ≠ b_2_Name))) || (decide (a_1_Text ≠ b_2_Text)))) rfl (fun hg => r_load1 Try.underlying23 rfl (cv_get (hA44.get rfl) hg) (hB19.cell 3 _ rfl)) fun a45 hA45 _ => ?_)
  refine sq (opk_gval hA45 rfl rfl (g := true) (e := (((decide (a_1_Kind ≠ b_2_Kind)) || (decide (a_1_Name ≠ b_2_Name))) || (decide (a_1_Text ≠ b_2_Text)))) rfl (fun hg => r_len (cv_get (hA45.get rfl) hg) Try.underlying23) fun a46 hA46 _ => ?_)
  refine sq (opk_gval hA46 rfl rfl (g := true) (e := (((decide (a_1_Kind ≠ b_2_Kind)) || (decide (a_1_Name ≠ b_2_Name))) || (decide (a_1_Text ≠ b_2_Text)))) rfl (fun hg => r_fieldAddr (hA46.get rfl) Try.underlying26 rfl ti_23 (by decide)) fun a47 hA47 _ => ?_)
  refine sq (opk_gval hA47 rfl rfl (g := true) (e := (((decide (a_1_Kind ≠ b_2_Kind)) || (decide (a_1_Name ≠ b_2_Name))) || (decide (a_1_Text ≠ b_2_Text)))) rfl (fun hg => r_load1 Try.underlying23 rfl (cv_get (hA47.get rfl) hg) (hB16.cell 3 _ rfl)) fun a48 hA48 _ => ?_)
  refine sq (opk_gval hA48 rfl rfl (g := true) (e := (((decide (a_1_Kind ≠ b_2_Kind)) || (decide (a_1_Name ≠ b_2_Name))) || (decide (a_1_Text ≠ b_2_Text)))) rfl (fun hg => r_len (cv_get (hA48.get rfl) hg) Try.underlying23) fun a49 hA49 _ => ?_)
  refine sq (opk_gval hA49 rfl rfl (g := true) (e := (((decide (a_1_Kind ≠ b_2_Kind)) || (decide (a_1_Name ≠ b_2_Name))) || (decide (a_1_Text ≠ b_2_Text)))) rfl (fun hg => r_neq (cv_get (hA49.get rfl) hg) (cv_get (hA49.get rfl) hg)) fun a50 hA50 _ => ?_)
  refine sq (opk_val hA50 rfl (r_pick_or (g := (true && ((((decide (a_1_Kind ≠ b_2_Kind)) || (decide (a_1_Name ≠ b_2_Name))) || (decide (a_1_Text ≠ b_2_Text))) == false))) (hA50.get rfl) (hA50.get rfl) (fun he => g_mkf rfl he)) fun a51 hA51 _ => ?_)
  refine sq (opk_val hA51 rfl (r_move (hA51.get rfl)) fun a52 hA52 _ => ?_)
  refine sq (opk_gval hA52 rfl rfl (g := true) (e := ((((decide (a_1_Kind ≠ b_2_Kind)) || (decide (a_1_Name ≠ b_2_Name))) || (decide (a_1_Text ≠ b_2_Text))) || (decide ((a_1_Attrs.n : Int) ≠ (b_2_Attrs.n : Int))))) rfl (fun hg => r_fieldAddr (hA52.get rfl) Try.underlying26 rfl ti_24 (by decide)) fun a53 hA53 _ => ?_)
  refine sq (opk_gval hA53 rfl rfl (g := true) (e := ((((decide (a_1_Kind ≠ b_2_Kind)) || (decide (a_1_Name ≠ b_2_Name))) || (decide (a_1_Text ≠ b_2_Text))) || (decide ((a_1_Attrs.n : Int) ≠ (b_2_Attrs.n : Int))))) rfl (fun hg => r_load1 Try.underlying24 rfl (cv_get (hA53.get rfl) hg) (hB19.cell 4 _ rfl)) fun a54 hA54 _ => ?_)
  refine sq (opk_gval hA54 rfl rfl (g := true) (e := ((((decide (a_1_Kind ≠ b_2_Kind)) || (decide (a_1_Name ≠ b_2_Name))) || (decide (a_1_Text ≠ b_2_Text))) || (decide ((a_1_Attrs.n : Int) ≠ (b_2_Attrs.n : Int))))) rfl (fun hg => r_len (cv_get (hA54.get rfl) hg) Try.underlying24) fun a55 hA55 _ => ?_)
  refine sq (opk_gval hA55 rfl rfl (g := true) (e := ((((decide (a_1_Kind ≠ b_2_Kind)) || (decide (a_1_Name ≠ b_2_Name))) || (decide (a_1_Text ≠ b_2_Text))) || (decide ((a_1_Attrs.n : Int) ≠ (b_2_Attrs.n : Int))))) rfl (fun hg => r_fieldAddr (hA55.get rfl) Try.underlying26 rfl ti_24 (by decide)) fun a56 hA56 _ => ?_)
  refine sq (opk_gval hA56 rfl rfl (g := true) (e := ((((decide (a_1_Kind ≠ b_2_Kind)) || (decide (a_1_Name ≠ b_2_Name))) || (decide (a_1_Text ≠ b_2_Text))) || (decide ((a_1_Attrs.n : Int) ≠ (b_2_Attrs.n : Int))))) rfl (fun hg => r_load1 Try.underlying24 rfl (cv_get (hA56.get rfl) hg) (hB16.cell 4 _ rfl)) fun a57 hA57 _ => ?_)
  refine sq (opk_gval hA57 rfl rfl (g := true) (e := ((((decide (a_1_Kind ≠ b_2_Kind)) || (decide (a_1_Name ≠ b_2_Name))) || (decide (a_1_Text ≠ b_2_Text))) || (decide ((a_1_Attrs.n : Int) ≠ (b_2_Attrs.n : Int))))) rfl (fun hg => r_len (cv_get (hA57.get rfl) hg) Try.underlying24) fun a58 hA58 _ => ?_)
  refine sq (opk_gval hA58 rfl rfl (g := true) (e := ((((decide (a_1_Kind ≠ b_2_Kind)) || (decide (a_1_Name ≠ b_2_Name))) || (decide (a_1_Text ≠ b_2_Text))) || (decide ((a_1_Attrs.n : Int) ≠ (b_2_Attrs.n : Int))))) rfl (fun hg => r_neq (cv_get (hA58.get rfl) hg) (cv_get (hA58.get rfl) hg)) fun a59 hA59 _ => ?_)
  refine sq (opk_val hA59 rfl (r_pick_or (g := (true && (((((decide (a_1_Kind ≠ b_2_Kind)) || (decide (a_1_Name ≠ b_2_Name))) || (decide (a_1_Text ≠ b_2_Text))) || (decide ((a_1_Attrs.n : Int) ≠ (b_2_Attrs.n : Int)))) == false))) (hA59.get rfl) (hA59.get rfl) (fun he => g_mkf rfl he)) fun a60 hA60 _ => ?_)
  refine sq_end ?_
  have hA61 := hA60.keep [(2, .pointer (some ⟨B_3, 0, none⟩)), (3, .pointer (some ⟨B_11, 0, none⟩)), (45, .bool (((((decide (a_1_Kind ≠ b_2_Kind)) || (decide (a_1_Name ≠ b_2_Name))) || (decide (a_1_Text ≠ b_2_Text))) || (decide ((a_1_Attrs.n : Int) ≠ (b_2_Attrs.n : Int)))) || (decide ((a_1_Kids.n : Int) ≠ (b_2_Kids.n : Int)))))] ⟨rfl, rfl, rfl, trivial⟩
  refine then_normal ?_
  refine wp_cond_split (hA61.get rfl) (fun hc => ?_) (fun hc => ?_)
  · have ht62 := ht0.1 ((b_or_t hc).imp (fun h => ((b_or_t h).imp (fun h => ((b_or_t h).imp (fun h => ((b_or_t h).imp (fun h => (of_decide_eq_true h)) (fun h => (of_decide_eq_true h)))) (fun h => (of_decide_eq_true h)))) (fun h => (of_decide_eq_true h)))) (fun h => (of_decide_eq_true h)))
    clear hc
    refine wp_seq ?_
    refine wp_region_lit ?_
    refine sq (opk_val hA61 rfl (r_assign rfl) fun a64 hA64 _ => ?_)
    refine sq_end ?_
    have hA65 := hA64.keep [(4, .bool false)] ⟨rfl, trivial⟩
    refine then_normal ?_
    refine wp_ret ?_
    refine then_ret ?_
    have ht66 := ht62 w12 B_3 B_11 hN21 hN18 hne17 hC20
    exact res_all (vs := [.bool false]) rfl hA65 ⟨res_of_tmp hA65 rfl, trivial⟩ ht66
  · have ht63 := ht0.2 ⟨⟨⟨⟨(of_decide_eq_false (b_or_f (b_or_f (b_or_f (b_or_f hc).1).1).1).1), (of_decide_eq_false (b_or_f (b_or_f (b_or_f (b_or_f hc).1).1).1).2)⟩, (of_decide_eq_false (b_or_f (b_or_f (b_or_f hc).1).1).2)⟩, (of_decide_eq_false (b_or_f (b_or_f hc).1).2)⟩, (of_decide_eq_false (b_or_f hc).2)⟩
    clear hc
    refine wp_skip ?_
    refine then_normal ?_
    refine wp_seq ?_
    refine wp_seq ?_
    refine wp_region_lit ?_
    refine sq (opk_val hA61 rfl (r_fieldAddr (hA61.get rfl) Try.underlying26 rfl ti_23 (by decide)) fun a67 hA67 _ => ?_)
    refine sq (opk_val hA67 rfl (r_load1 Try.underlying23 rfl (hA67.get rfl) (hB19.cell 3 _ rfl)) fun a68 hA68 _ => ?_)
    refine sq (opk_val hA68 rfl (r_len (hA68.get rfl) Try.underlying23) fun a69 hA69 _ => ?_)
    refine sq (opk_val hA69 rfl (r_move rfl) fun a70 hA70 _ => ?_)
    refine sq_end ?_
    have hA71 := hA70.keep [(2, .pointer (some ⟨B_3, 0, none⟩)), (3, .pointer (some ⟨B_11, 0, none⟩)), (47, Sl.v a_1_Attrs), (48, .int .i64 (a_1_Attrs.n : Int)), (49, .int .i64 0)] ⟨rfl, rfl, rfl, rfl, rfl, trivial⟩
    refine then_normal ?_
    refine wp_block ?_
    have ht158 := ht63 w12 B_3 B_11 hN21 hN18 hne17 hC20
    obtain ⟨J_74, mu_75, h0163, ht162⟩ := ht158
    refine wp_loop_st (σ := Int × World) (fun s a w => Ag 79 a [(2, .pointer (some ⟨B_3, 0, none⟩)), (3, .pointer (some ⟨B_11, 0, none⟩)), (47, Sl.v a_1_Attrs), (48, .int .i64 (a_1_Attrs.n : Int)), (49, .int .i64 s.1)] ∧ Box w B_3 26 [.int .i64 a_1_Kind, .string (Bs a_1_Name), .string (Bs a_1_Text), Sl.v a_1_Attrs, Sl.v a_1_Kids] ∧ Box w B_11 26 [.int .i64 b_2_Kind, .string (Bs b_2_Name), .string (Bs b_2_Text), Sl.v b_2_Attrs, Sl.v b_2_Kids] ∧ w = s.2 ∧ J_74 s.1 s.2) (fun s => mu_75 s.1 s.2) (0, w12) ⟨hA71.keep [(2, .pointer (some ⟨B_3, 0, none⟩)), (3, .pointer (some ⟨B_11, 0, none⟩)), (47, Sl.v a_1_Attrs), (48, .int .i64 (a_1_Attrs.n : Int)), (49, .int .i64 0)] ⟨rfl, rfl, rfl, rfl, rfl, trivial⟩, hB19, hB16, rfl, h0163⟩ ?_
    rintro ⟨x_72, w73⟩ a159 w_ ⟨hA159, hB160, hB161, hw_, hJ165⟩
    have hw_ : w73 = w_ := hw_.symm
    subst hw_
    have ht164 := ht162 x_72 _ hJ165
    refine wp_seq ?_
    refine wp_region_lit ?_
    refine sq (opk_val hA159 rfl (r_lss (hA159.get rfl) (hA159.get rfl)) fun a166 hA166 _ => ?_)
    refine sq_end ?_
    have hA167 := hA166.keep [(2, .pointer (some ⟨B_3, 0, none⟩)), (3, .pointer (some ⟨B_11, 0, none⟩)), (47, Sl.v a_1_Attrs), (48, .int .i64 (a_1_Attrs.n : Int)), (49, .int .i64 x_72), (50, .bool (decide (x_72 < (a_1_Attrs.n : Int))))] ⟨rfl, rfl, rfl, rfl, rfl, rfl, trivial⟩
    refine then_normal ?_
    refine wp_seq ?_
    refine wp_cond_split (hA167.get rfl) (fun hc => ?_) (fun hc => ?_)
    · have ht168 := ht164.1 (of_decide_eq_true hc)
      clear hc
      refine wp_skip ?_
      refine then_normal ?_
      refine wp_seq ?_
      refine wp_block ?_
      refine wp_seq ?_
      refine wp_region_lit ?_
      refine sq (opk_val hA167 rfl (r_move (hA167.get rfl)) fun a170 hA170 _ => ?_)
      obtain ⟨hb172, p_171, hp173, ht174⟩ := ht168
      refine sq (opk_val hA170 rfl (r_indexAddr (hA170.get rfl) (hA170.get rfl) Try.underlying23 ti_33 hb172 hp173) fun a175 hA175 _ => ?_)
      obtain ⟨x_177_Name, x_177_Value, hx178, ht179⟩ := ht174
      refine sq (opk_val hA175 rfl (r_loadN Try.underlying33 rfl ti_33 (hA175.get rfl) hx178) fun a176 hA176 _ => ?_)
      refine sq (opk_new (fun B => .pointer (some ⟨B, 0, none⟩)) hA176 rfl (r_alloc (cs := [.string (Bs ([] : Str)), .string (Bs ([] : Str))]) ti_33 rfl) fun a182 w181 B_180 hE183 hN184 hB185 hA182 _ => ?_)
      have hne186 : B_3 ≠ B_180 := Nat.ne_of_lt (Nat.lt_of_lt_of_le hB160.lt hN184.ge)
      have hne187 : B_11 ≠ B_180 := Nat.ne_of_lt (Nat.lt_of_lt_of_le hB161.lt hN184.ge)
      have hN188 : New w73 B_180 w181 := hN184
      have hB189 := hB160.ext hE183
      have hB190 := hB161.ext hE183
      have hC191 : Chg [] w73 w181 := hE183
      refine sq (opk_val hA182 rfl (r_assign (hA182.get rfl)) fun a192 hA192 _ => ?_)
      refine sq (opk_store hA192 hB185 (r_store (vs := [.string (Bs x_177_Name), .string (Bs x_177_Value)]) (hA192.get rfl) (hA192.get rfl) rfl ti_33 hB185 rfl (ones_all [.string (Bs x_177_Name), .string (Bs x_177_Value)] rfl)) fun a194 w193 hS195 hB196 hA194 => ?_)
      have hB197 : Box w193 B_180 33 [.string (Bs x_177_Name), .string (Bs x_177_Value)] := hB196
      have hB198 := hB189.keep hS195 (by simpa using hne186)
      have hB199 := hB190.keep hS195 (by simpa using hne187)
      have hC200 := hC191.storeNew hN188 hS195
      have hN201 := hN188.up hS195.size
      refine sq_end ?_
      have hA202 := hA194.keep [(2, .pointer (some ⟨B_3, 0, none⟩)), (3, .pointer (some ⟨B_11, 0, none⟩)), (5, .int .i64 x_72), (6, .pointer (some ⟨B_180, 0, none⟩)), (47, Sl.v a_1_Attrs), (48, .int .i64 (a_1_Attrs.n : Int)), (49, .int .i64 x_72)] ⟨rfl, rfl, rfl, rfl, rfl, rfl, rfl, trivial⟩
      refine then_normal ?_
      refine wp_seq ?_
      refine draw' (by kernel_rfl) fun w203 hE204 => ?_
      have hB205 := hB198.ext hE204
      have hB206 := hB199.ext hE204
      have hB207 := hB197.ext hE204
      have hC208 := hC200.more hE204
      have hN209 := hN201.up hE204.size
      have ht210 := ht179 w203 B_180 hN209  hC208
      obtain ⟨p_214, hp215, ht216⟩ := ht210
      obtain ⟨x_218_Name, x_218_Value, hx219, ht220⟩ := ht216
      refine par (D := [[], [], [1], [], [1, 2, 3], [1, 2, 3, 4], [0, 1, 2, 3, 4, 5]]) (S := [0, 1, 2, 3, 4, 5, 6]) (F := []) (V := VL [(0, fun v _ => v = .agg #[.string (Bs x_177_Name), .string (Bs x_177_Value)]), (1, fun v _ => v = .pointer (some ⟨B_11, 3, none⟩)), (2, fun v _ => v = Sl.v b_2_Attrs), (3, fun v _ => v = .int .i64 x_72), (4, fun v _ => v = .pointer (some (p_214.add (x_72.toNat * 2)))), (5, fun v _ => v = .agg #[.string (Bs x_218_Name), .string (Bs x_218_Value)]), (6, fun v _ => v = .bool (decide (¬ (x_177_Name = x_218_Name ∧ x_177_Value = x_218_Value))))]) hA202 (by kernel_rfl) ⟨fun _ _ _ _ h => by first | exact h | (change _ = _ at h; change _ = _; exact h), fun _ _ _ _ h => by first | exact h | (change _ = _ at h; change _ = _; exact h), fun _ _ _ _ h => by first | exact h | (change _ = _ at h; change _ = _; exact h), fun _ _ _ _ h => by first | exact h | (change _ = _ at h; change _ = _; exact h), fun _ _ _ _ h => by first | exact h | (change _ = _ at h; change _ = _; exact h), fun _ _ _ _ h => by first | exact h | (change _ = _ at h; change _ = _; exact h), fun _ _ _ _ h => by first | exact h | (change _ = _ at h; change _ = _; exact h), trivial⟩ ⟨?_, ?_, ?_, ?_, ?_, ?_, ?_, trivial⟩ ?_
      · intro a w hT
        have hAp := hT.ag hA202 [(6, .pointer (some ⟨B_180, 0, none⟩))] ⟨rfl, trivial⟩ (by kernel_rfl)
        exact opk_val hAp rfl (r_loadN (cs := [.string (Bs x_177_Name), .string (Bs x_177_Value)]) Try.underlying33 rfl ti_33 (hAp.get rfl) ((hB207.ext hT.chg).part 0 _ rfl)) fun _ _ e => ⟨_, e, Chg.refl _ _, fun _ => Eq.refl _⟩
      · intro a w hT
        have hAp := hT.ag hA202 [(3, .pointer (some ⟨B_11, 0, none⟩))] ⟨rfl, trivial⟩ (by kernel_rfl)
        exact opk_val hAp rfl (r_fieldAddr (hAp.get rfl) Try.underlying26 rfl ti_23 (by decide)) fun _ _ e => ⟨_, e, Chg.refl _ _, fun _ => Eq.refl _⟩
      · intro a w hT
        have hAp := hT.ag hA202 [] trivial (by kernel_rfl)
        have e211 : a.tmps.getD 55 undef = .pointer (some ⟨B_11, 3, none⟩) := hT.vals 1 rfl 55 rfl
        have hAp := hAp.add e211
        exact opk_val hAp rfl (r_load1 Try.underlying23 rfl (hAp.get rfl) ((hB206.ext hT.chg).cell 3 _ rfl)) fun _ _ e => ⟨_, e, Chg.refl _ _, fun _ => Eq.refl _⟩
      · intro a w hT
        have hAp := hT.ag hA202 [(5, .int .i64 x_72)] ⟨rfl, trivial⟩ (by kernel_rfl)
        exact opk_val hAp rfl (r_move (hAp.get rfl)) fun _ _ e => ⟨_, e, Chg.refl _ _, fun _ => Eq.refl _⟩
      · intro a w hT
        have hAp := hT.ag hA202 [] trivial (by kernel_rfl)
        have e212 : a.tmps.getD 56 undef = Sl.v b_2_Attrs := hT.vals 2 rfl 56 rfl
        have hAp := hAp.add e212
        have e213 : a.tmps.getD 57 undef = .int .i64 x_72 := hT.vals 3 rfl 57 rfl
        have hAp := hAp.add e213
        exact opk_val hAp rfl (r_indexAddr (hAp.get rfl) (hAp.get rfl) Try.underlying23 ti_33 hp215.1 hp215.2) fun _ _ e => ⟨_, e, Chg.refl _ _, fun _ => Eq.refl _⟩
      · intro a w hT
        have hAp := hT.ag hA202 [] trivial (by kernel_rfl)
        have e217 : a.tmps.getD 58 undef = .pointer (some (p_214.add (x_72.toNat * 2))) := hT.vals 4 rfl 58 rfl
        have hAp := hAp.add e217
        exact opk_val hAp rfl (r_loadN Try.underlying33 rfl ti_33 (hAp.get rfl) (hx219.ext hT.chg)) fun _ _ e => ⟨_, e, Chg.refl _ _, fun _ => Eq.refl _⟩
      · intro a w hT
        have hAp := hT.ag hA202 [] trivial (by kernel_rfl)
        have e221 : a.tmps.getD 54 undef = .agg #[.string (Bs x_177_Name), .string (Bs x_177_Value)] := hT.vals 0 rfl 54 rfl
        have hAp := hAp.add e221
        have e222 : a.tmps.getD 59 undef = .agg #[.string (Bs x_218_Name), .string (Bs x_218_Value)] := hT.vals 5 rfl 59 rfl
        have hAp := hAp.add e222
        exact opk_val hAp rfl (r_aneqd (hAp.get rfl) (hAp.get rfl) (eq_33 _ _ _ _)) fun _ _ e => ⟨_, e, Chg.refl _ _, fun _ => Eq.refl _⟩
      · intro a223 w224 hE225 hag226 hv227
        have hA223 := hag226 [(2, .pointer (some ⟨B_3, 0, none⟩)), (3, .pointer (some ⟨B_11, 0, none⟩)), (47, Sl.v a_1_Attrs), (48, .int .i64 (a_1_Attrs.n : Int)), (49, .int .i64 x_72)] ⟨rfl, rfl, rfl, rfl, rfl, trivial⟩ (by kernel_rfl)
        have e229 : a223.tmps.getD 60 undef = .bool (decide (¬ (x_177_Name = x_218_Name ∧ x_177_Value = x_218_Value))) := hv227 6 rfl 60 rfl
        have hA230 := hA223.add e229
        have hB231 := hB205.ext hE225
        have hB232 := hB206.ext hE225
        have hB233 := hB207.ext hE225
        have hC234 : Chg [] w203 w224 := hE225
        refine PR_end (by kernel_rfl) ?_
        have hA235 := hA230.keep [(2, .pointer (some ⟨B_3, 0, none⟩)), (3, .pointer (some ⟨B_11, 0, none⟩)), (47, Sl.v a_1_Attrs), (48, .int .i64 (a_1_Attrs.n : Int)), (49, .int .i64 x_72), (60, .bool (decide (¬ (x_177_Name = x_218_Name ∧ x_177_Value = x_218_Value))))] ⟨rfl, rfl, rfl, rfl, rfl, rfl, trivial⟩
        refine then_normal ?_
        refine wp_cond_split (hA235.get rfl) (fun hc => ?_) (fun hc => ?_)
        · have ht236 := ht220.1 (of_decide_eq_true hc)
          clear hc
          refine wp_seq ?_
          refine wp_region_lit ?_
          refine sq (opk_val hA235 rfl (r_assign rfl) fun a238 hA238 _ => ?_)
          refine sq_end ?_
          have hA239 := hA238.keep [(4, .bool false)] ⟨rfl, trivial⟩
          refine then_normal ?_
          refine wp_ret ?_
          refine block_ret ?_
          refine then_ret ?_
          refine then_ret ?_
          refine block_ret ?_
          refine then_ret ?_
          have ht240 := ht236 w224    hC234
          exact res_all (vs := [.bool false]) rfl hA239 ⟨res_of_tmp hA239 rfl, trivial⟩ ht240
        · have ht237 := ht220.2 (of_decide_eq_false hc)
          clear hc
          refine wp_skip ?_
          refine block_normal ?_
          refine then_normal ?_
          refine wp_region_lit ?_
          obtain ⟨hS242, ht243⟩ := ht237
          refine sq (opk_val hA235 rfl (r_addI (hA235.get rfl) rfl hS242) fun a241 hA241 _ => ?_)
          refine sq (opk_val hA241 rfl (r_move (hA241.get rfl)) fun a244 hA244 _ => ?_)
          refine sq_end ?_
          have hA245 := hA244.keep [(2, .pointer (some ⟨B_3, 0, none⟩)), (3, .pointer (some ⟨B_11, 0, none⟩)), (47, Sl.v a_1_Attrs), (48, .int .i64 (a_1_Attrs.n : Int)), (49, .int .i64 (x_72 + 1))] ⟨rfl, rfl, rfl, rfl, rfl, trivial⟩
          have ht246 := ht243 w224    hC234
          have hA247 := hA245.keep [(2, .pointer (some ⟨B_3, 0, none⟩)), (3, .pointer (some ⟨B_11, 0, none⟩)), (47, Sl.v a_1_Attrs), (48, .int .i64 (a_1_Attrs.n : Int)), (49, .int .i64 (x_72 + 1))] ⟨rfl, rfl, rfl, rfl, rfl, trivial⟩
          exact then_normal ⟨(x_72 + 1, w224), ⟨hA247, hB231, hB232, rfl, ht246.1⟩, ht246.2⟩
    · have ht169 := ht164.2 (of_decide_eq_false hc)
      clear hc
      refine wp_exit ?_
      refine then_exit ?_
      refine then_exit ?_
      refine block_hit ?_
      have hA248 := hA167.keep [(2, .pointer (some ⟨B_3, 0, none⟩)), (3, .pointer (some ⟨B_11, 0, none⟩))] ⟨rfl, rfl, trivial⟩
      refine then_normal ?_
      refine wp_seq ?_
      refine wp_seq ?_
      refine wp_region_lit ?_
      refine sq (opk_val hA248 rfl (r_fieldAddr (hA248.get rfl) Try.underlying26 rfl ti_24 (by decide)) fun a249 hA249 _ => ?_)
      refine sq (opk_val hA249 rfl (r_load1 Try.underlying24 rfl (hA249.get rfl) (hB160.cell 4 _ rfl)) fun a250 hA250 _ => ?_)
      refine sq (opk_val hA250 rfl (r_len (hA250.get rfl) Try.underlying24) fun a251 hA251 _ => ?_)
      refine sq (opk_val hA251 rfl (r_move rfl) fun a252 hA252 _ => ?_)
      refine sq_end ?_
      have hA253 := hA252.keep [(3, .pointer (some ⟨B_11, 0, none⟩)), (63, Sl.v a_1_Kids), (64, .int .i64 (a_1_Kids.n : Int)), (65, .int .i64 0)] ⟨rfl, rfl, rfl, rfl, trivial⟩
      refine then_normal ?_
      refine wp_block ?_
      obtain ⟨J_256, mu_257, h0341, ht340⟩ := ht169
      refine wp_loop_st (σ := Int × World) (fun s a w => Ag 79 a [(3, .pointer (some ⟨B_11, 0, none⟩)), (63, Sl.v a_1_Kids), (64, .int .i64 (a_1_Kids.n : Int)), (65, .int .i64 s.1)] ∧ Box w B_11 26 [.int .i64 b_2_Kind, .string (Bs b_2_Name), .string (Bs b_2_Text), Sl.v b_2_Attrs, Sl.v b_2_Kids] ∧ w = s.2 ∧ J_256 s.1 s.2) (fun s => mu_257 s.1 s.2) (0, w73) ⟨hA253.keep [(3, .pointer (some ⟨B_11, 0, none⟩)), (63, Sl.v a_1_Kids), (64, .int .i64 (a_1_Kids.n : Int)), (65, .int .i64 0)] ⟨rfl, rfl, rfl, rfl, trivial⟩, hB161, rfl, h0341⟩ ?_
      rintro ⟨x_254, w255⟩ a338 w_ ⟨hA338, hB339, hw_, hJ343⟩
      have hw_ : w255 = w_ := hw_.symm
      subst hw_
      have ht342 := ht340 x_254 _ hJ343
      refine wp_seq ?_
      refine wp_region_lit ?_
      refine sq (opk_val hA338 rfl (r_lss (hA338.get rfl) (hA338.get rfl)) fun a344 hA344 _ => ?_)
      refine sq_end ?_
      have hA345 := hA344.keep [(3, .pointer (some ⟨B_11, 0, none⟩)), (63, Sl.v a_1_Kids), (64, .int .i64 (a_1_Kids.n : Int)), (65, .int .i64 x_254), (66, .bool (decide (x_254 < (a_1_Kids.n : Int))))] ⟨rfl, rfl, rfl, rfl, rfl, trivial⟩
      refine then_normal ?_
      refine wp_seq ?_
      refine wp_cond_split (hA345.get rfl) (fun hc => ?_) (fun hc => ?_)
      · have ht346 := ht342.1 (of_decide_eq_true hc)
        clear hc
        refine wp_skip ?_
        refine then_normal ?_
        refine wp_seq ?_
        refine wp_block ?_
        refine wp_seq ?_
        refine wp_region_lit ?_
        refine sq (opk_val hA345 rfl (r_move (hA345.get rfl)) fun a348 hA348 _ => ?_)
        obtain ⟨hb350, p_349, hp351, ht352⟩ := ht346
        refine sq (opk_val hA348 rfl (r_indexAddr (hA348.get rfl) (hA348.get rfl) Try.underlying24 ti_26 hb350 hp351) fun a353 hA353 _ => ?_)
        obtain ⟨x_355_Kind, x_355_Name, x_355_Text, x_355_Attrs, x_355_Kids, hx356, ht357⟩ := ht352
        refine sq (opk_val hA353 rfl (r_loadN Try.underlying26 rfl ti_26 (hA353.get rfl) hx356) fun a354 hA354 _ => ?_)
        refine sq (opk_new (fun B => .pointer (some ⟨B, 0, none⟩)) hA354 rfl (r_alloc (cs := [.int .i64 0, .string (Bs ([] : Str)), .string (Bs ([] : Str)), Sl.v Sl.nil, Sl.v Sl.nil]) ti_26 rfl) fun a360 w359 B_358 hE361 hN362 hB363 hA360 _ => ?_)
        have hne364 : B_11 ≠ B_358 := Nat.ne_of_lt (Nat.lt_of_lt_of_le hB339.lt hN362.ge)
        have hN365 : New w255 B_358 w359 := hN362
        have hB366 := hB339.ext hE361
        have hC367 : Chg [] w255 w359 := hE361
        refine sq (opk_val hA360 rfl (r_assign (hA360.get rfl)) fun a368 hA368 _ => ?_)
        refine sq (opk_store hA368 hB363 (r_store (vs := [.int .i64 x_355_Kind, .string (Bs x_355_Name), .string (Bs x_355_Text), Sl.v x_355_Attrs, Sl.v x_355_Kids]) (hA368.get rfl) (hA368.get rfl) rfl ti_26 hB363 rfl (ones_all [.int .i64 x_355_Kind, .string (Bs x_355_Name), .string (Bs x_355_Text), Sl.v x_355_Attrs, Sl.v x_355_Kids] rfl)) fun a370 w369 hS371 hB372 hA370 => ?_)
        have hB373 : Box w369 B_358 26 [.int .i64 x_355_Kind, .string (Bs x_355_Name), .string (Bs x_355_Text), Sl.v x_355_Attrs, Sl.v x_355_Kids] := hB372
        have hB374 := hB366.keep hS371 (by simpa using hne364)
        have hC375 := hC367.storeNew hN365 hS371
        have hN376 := hN365.up hS371.size
        refine sq_end ?_
        have hA377 := hA370.keep [(3, .pointer (some ⟨B_11, 0, none⟩)), (7, .int .i64 x_254), (8, .pointer (some ⟨B_358, 0, none⟩)), (63, Sl.v a_1_Kids), (64, .int .i64 (a_1_Kids.n : Int)), (65, .int .i64 x_254)] ⟨rfl, rfl, rfl, rfl, rfl, rfl, trivial⟩
        refine then_normal ?_
        refine wp_seq ?_
        refine draw' (by kernel_rfl) fun w378 hE379 => ?_
        have hB380 := hB374.ext hE379
        have hB381 := hB373.ext hE379
        have hC382 := hC375.more hE379
        have hN383 := hN376.up hE379.size
        have ht384 := ht357 w378 B_358 hN383  hC382
        obtain ⟨p_388, hp389, ht390⟩ := ht384
        obtain ⟨x_392_Kind, x_392_Name, x_392_Text, x_392_Attrs, x_392_Kids, hx393, ht394⟩ := ht390
        obtain ⟨r_397, hc398, ht399⟩ := ht394
        refine par (D := [[], [], [1], [], [1, 2, 3], [1, 2, 3, 4], [0, 1, 2, 3, 4, 5], [0, 1, 2, 3, 4, 5, 6]]) (S := [0, 1, 2, 3, 4, 5, 6, 7]) (F := []) (V := VL [(0, fun v _ => v = .agg #[.int .i64 x_355_Kind, .string (Bs x_355_Name), .string (Bs x_355_Text), Sl.v x_355_Attrs, Sl.v x_355_Kids]), (1, fun v _ => v = .pointer (some ⟨B_11, 4, none⟩)), (2, fun v _ => v = Sl.v b_2_Kids), (3, fun v _ => v = .int .i64 x_254), (4, fun v _ => v = .pointer (some (p_388.add (x_254.toNat * 5)))), (5, fun v _ => v = .agg #[.int .i64 x_392_Kind, .string (Bs x_392_Name), .string (Bs x_392_Text), Sl.v x_392_Attrs, Sl.v x_392_Kids]), (6, fun v _ => v = .bool r_397), (7, fun v _ => v = .bool (!r_397))]) hA377 (by kernel_rfl) ⟨fun _ _ _ _ h => by first | exact h | (change _ = _ at h; change _ = _; exact h), fun _ _ _ _ h => by first | exact h | (change _ = _ at h; change _ = _; exact h), fun _ _ _ _ h => by first | exact h | (change _ = _ at h; change _ = _; exact h), fun _ _ _ _ h => by first | exact h | (change _ = _ at h; change _ = _; exact h), fun _ _ _ _ h => by first | exact h | (change _ = _ at h; change _ = _; exact h), fun _ _ _ _ h => by first | exact h | (change _ = _ at h; change _ = _; exact h), fun _ _ _ _ h => by first | exact h | (change _ = _ at h; change _ = _; exact h), fun _ _ _ _ h => by first | exact h | (change _ = _ at h; change _ = _; exact h), trivial⟩ ⟨?_, ?_, ?_, ?_, ?_, ?_, ?_, ?_, trivial⟩ ?_
        · intro a w hT
          have hAp := hT.ag hA377 [(8, .pointer (some ⟨B_358, 0, none⟩))] ⟨rfl, trivial⟩ (by kernel_rfl)
          exact opk_val hAp rfl (r_loadN (cs := [.int .i64 x_355_Kind, .string (Bs x_355_Name), .string (Bs x_355_Text), Sl.v x_355_Attrs, Sl.v x_355_Kids]) Try.underlying26 rfl ti_26 (hAp.get rfl) ((hB381.ext hT.chg).part 0 _ rfl)) fun _ _ e => ⟨_, e, Chg.refl _ _, fun _ => Eq.refl _⟩
        · intro a w hT
          have hAp := hT.ag hA377 [(3, .pointer (some ⟨B_11, 0, none⟩))] ⟨rfl, trivial⟩ (by kernel_rfl)
          exact opk_val hAp rfl (r_fieldAddr (hAp.get rfl) Try.underlying26 rfl ti_24 (by decide)) fun _ _ e => ⟨_, e, Chg.refl _ _, fun _ => Eq.refl _⟩
        · intro a w hT
          have hAp := hT.ag hA377 [] trivial (by kernel_rfl)
          have e385 : a.tmps.getD 71 undef = .pointer (some ⟨B_11, 4, none⟩) := hT.vals 1 rfl 71 rfl
          have hAp := hAp.add e385
          exact opk_val hAp rfl (r_load1 Try.underlying24 rfl (hAp.get rfl) ((hB380.ext hT.chg).cell 4 _ rfl)) fun _ _ e => ⟨_, e, Chg.refl _ _, fun _ => Eq.refl _⟩
        · intro a w hT
          have hAp := hT.ag hA377 [(7, .int .i64 x_254)] ⟨rfl, trivial⟩ (by kernel_rfl)
          exact opk_val hAp rfl (r_move (hAp.get rfl)) fun _ _ e => ⟨_, e, Chg.refl _ _, fun _ => Eq.refl _⟩
        · intro a w hT
          have hAp := hT.ag hA377 [] trivial (by kernel_rfl)
          have e386 : a.tmps.getD 72 undef = Sl.v b_2_Kids := hT.vals 2 rfl 72 rfl
          have hAp := hAp.add e386
          have e387 : a.tmps.getD 73 undef = .int .i64 x_254 := hT.vals 3 rfl 73 rfl
          have hAp := hAp.add e387
          exact opk_val hAp rfl (r_indexAddr (hAp.get rfl) (hAp.get rfl) Try.underlying24 ti_26 hp389.1 hp389.2) fun _ _ e => ⟨_, e, Chg.refl _ _, fun _ => Eq.refl _⟩
        · intro a w hT
          have hAp := hT.ag hA377 [] trivial (by kernel_rfl)
          have e391 : a.tmps.getD 74 undef = .pointer (some (p_388.add (x_254.toNat * 5))) := hT.vals 4 rfl 74 rfl
          have hAp := hAp.add e391
          exact opk_val hAp rfl (r_loadN Try.underlying26 rfl ti_26 (hAp.get rfl) (hx393.ext hT.chg)) fun _ _ e => ⟨_, e, Chg.refl _ _, fun _ => Eq.refl _⟩
        · intro a w hT
          have hAp := hT.ag hA377 [] trivial (by kernel_rfl)
          have e395 : a.tmps.getD 70 undef = .agg #[.int .i64 x_355_Kind, .string (Bs x_355_Name), .string (Bs x_355_Text), Sl.v x_355_Attrs, Sl.v x_355_Kids] := hT.vals 0 rfl 70 rfl
          have hAp := hAp.add e395
          have e396 : a.tmps.getD 75 undef = .agg #[.int .i64 x_392_Kind, .string (Bs x_392_Name), .string (Bs x_392_Text), Sl.v x_392_Attrs, Sl.v x_392_Kids] := hT.vals 5 rfl 75 rfl
          have hAp := hAp.add e396
          exact opk_callX hAp rfl (r_call (args := #[.agg #[.int .i64 x_355_Kind, .string (Bs x_355_Name), .string (Bs x_355_Text), Sl.v x_355_Attrs, Sl.v x_355_Kids], .agg #[.int .i64 x_392_Kind, .string (Bs x_392_Name), .string (Bs x_392_Text), Sl.v x_392_Attrs, Sl.v x_392_Kids]]) Try.func25 (by decide) rfl (map_arr (ml_cons (hAp.get rfl) (ml_cons (hAp.get rfl) ml_nil))) rfl) (hc398 w hT.chg) fun _ _ _ _ e hR => ⟨_, e, hR.1, fun _ => hR.2⟩
        · intro a w hT
          have hAp := hT.ag hA377 [] trivial (by kernel_rfl)
          have e400 : a.tmps.getD 76 undef = .bool r_397 := hT.vals 6 rfl 76 rfl
          have hAp := hAp.add e400
          exact opk_val hAp rfl (r_not (hAp.get rfl)) fun _ _ e => ⟨_, e, Chg.refl _ _, fun _ => Eq.refl _⟩
        · intro a401 w402 hE403 hag404 hv405
          have hA401 := hag404 [(3, .pointer (some ⟨B_11, 0, none⟩)), (63, Sl.v a_1_Kids), (64, .int .i64 (a_1_Kids.n : Int)), (65, .int .i64 x_254)] ⟨rfl, rfl, rfl, rfl, trivial⟩ (by kernel_rfl)
          have e407 : a401.tmps.getD 77 undef = .bool (!r_397) := hv405 7 rfl 77 rfl
          have hA408 := hA401.add e407
          have hB409 := hB380.ext hE403
          have hB410 := hB381.ext hE403
          have hC411 : Chg [] w378 w402 := hE403
          refine PR_end (by kernel_rfl) ?_
          have hA412 := hA408.keep [(3, .pointer (some ⟨B_11, 0, none⟩)), (63, Sl.v a_1_Kids), (64, .int .i64 (a_1_Kids.n : Int)), (65, .int .i64 x_254), (77, .bool (!r_397))] ⟨rfl, rfl, rfl, rfl, rfl, trivial⟩
          refine then_normal ?_
          refine wp_cond_split (hA412.get rfl) (fun hc => ?_) (fun hc => ?_)
          · have ht413 := ht399.1 (b_not_t hc)
            clear hc
            refine wp_seq ?_
            refine wp_region_lit ?_
            refine sq (opk_val hA412 rfl (r_assign rfl) fun a415 hA415 _ => ?_)
            refine sq_end ?_
            have hA416 := hA415.keep [(4, .bool false)] ⟨rfl, trivial⟩
            refine then_normal ?_
            refine wp_ret ?_
            refine block_ret ?_
            refine then_ret ?_
            refine then_ret ?_
            refine block_ret ?_
            refine then_ret ?_
            have ht417 := ht413 w402    hC411
            exact res_all (vs := [.bool false]) rfl hA416 ⟨res_of_tmp hA416 rfl, trivial⟩ ht417
          · have ht414 := ht399.2 (b_not_f hc)
            clear hc
            refine wp_skip ?_
            refine block_normal ?_
            refine then_normal ?_
            refine wp_region_lit ?_
            obtain ⟨hS419, ht420⟩ := ht414
            refine sq (opk_val hA412 rfl (r_addI (hA412.get rfl) rfl hS419) fun a418 hA418 _ => ?_)
            refine sq (opk_val hA418 rfl (r_move (hA418.get rfl)) fun a421 hA421 _ => ?_)
            refine sq_end ?_
            have hA422 := hA421.keep [(3, .pointer (some ⟨B_11, 0, none⟩)), (63, Sl.v a_1_Kids), (64, .int .i64 (a_1_Kids.n : Int)), (65, .int .i64 (x_254 + 1))] ⟨rfl, rfl, rfl, rfl, trivial⟩
            have ht423 := ht420 w402    hC411
            have hA424 := hA422.keep [(3, .pointer (some ⟨B_11, 0, none⟩)), (63, Sl.v a_1_Kids), (64, .int .i64 (a_1_Kids.n : Int)), (65, .int .i64 (x_254 + 1))] ⟨rfl, rfl, rfl, rfl, trivial⟩
            exact then_normal ⟨(x_254 + 1, w402), ⟨hA424, hB409, rfl, ht423.1⟩, ht423.2⟩
      · have ht347 := ht342.2 (of_decide_eq_false hc)
        clear hc
        refine wp_exit ?_
        refine then_exit ?_
        refine then_exit ?_
        refine block_hit ?_
        have hA425 := hA345.keep [] trivial
        refine then_normal ?_
        refine wp_seq ?_
        refine wp_region_lit ?_
        refine sq (opk_val hA425 rfl (r_assign rfl) fun a426 hA426 _ => ?_)
        refine sq_end ?_
        have hA427 := hA426.keep [(4, .bool true)] ⟨rfl, trivial⟩
        refine then_normal ?_
        refine wp_ret ?_
        exact res_all (vs := [.bool true]) rfl hA427 ⟨res_of_tmp hA427 rfl, trivial⟩ ht347

/-- The condition of topiary/topiaryref05.Attr. -/
def ref05_Attr.vc (l_1 : Sl) (name_2 : Str) (R : Value → World → Prop) (w : World) : Prop :=
∃ (J_10 : Int → World → Prop) (mu_11 : Int → World → Nat),
J_10 0 w ∧
(∀ (i_8 : Int) (w9 : World), J_10 i_8 w9 →
((i_8 < (l_1.n : Int)) →
((0 : Int) ≤ i_8 ∧ i_8 < (l_1.n : Int)) ∧ ∃ p_72 : Addr, l_1.a = some p_72 ∧
∃ (x_79 : Str), (w9.cell? ((p_72.add (i_8.toNat * 2)).add 0) = some (.string (Bs x_79))) ∧
((x_79 = name_2) →
((0 : Int) ≤ i_8 ∧ i_8 < (l_1.n : Int)) ∧ ∃ p_89 : Addr, l_1.a = some p_89 ∧
∃ (x_96 : Str), (w9.cell? ((p_89.add (i_8.toNat * 2)).add 1) = some (.string (Bs x_96))) ∧
R (.tuple #[.string (Bs x_96), .bool true]) w9) ∧
((¬ (x_79 = name_2)) →
(I64 (i_8 + 1)) ∧
J_10 (i_8 + 1) w9 ∧ mu_11 (i_8 + 1) w9 < mu_11 i_8 w9)) ∧
((¬ (i_8 < (l_1.n : Int))) →
R (.tuple #[.string (Bs ([] : Str)), .bool false]) w9))
set_option maxHeartbeats 1000000 in
set_option maxRecDepth 10000 in
theorem ref05_Attr.ok (l_1 : Sl) (name_2 : Str) {R : Value → World → Prop} {w : World} (ht0 : ref05_Attr.vc l_1 name_2 R w) : Calls Try.prog 26 #[Sl.v l_1, .string (Bs name_2)] w (Ret R) := by
  refine enter [Sl.v l_1, .string (Bs name_2)] Try.func26 rfl Try.ntmps26 rfl ?_
  intro a0 hA0
  unfold ref05_Attr.vc at ht0
  refine wp_seq ?_
  refine wp_region_lit ?_
  refine sq (opk_val hA0 rfl (r_assign rfl) fun a3 hA3 _ => ?_)
  refine sq (opk_val hA3 rfl (r_assign rfl) fun a4 hA4 _ => ?_)
  refine sq_end ?_
  have hA5 := hA4.keep [(0, Sl.v l_1), (1, .string (Bs name_2))] ⟨rfl, rfl, trivial⟩
  refine then_normal ?_
  refine wp_seq ?_
  refine wp_seq ?_
  refine wp_region_lit ?_
  refine sq (opk_val hA5 rfl (r_assign rfl) fun a6 hA6 _ => ?_)
  refine sq_end ?_
  have hA7 := hA6.keep [(0, Sl.v l_1), (1, .string (Bs name_2)), (6, .int .i64 0)] ⟨rfl, rfl, rfl, trivial⟩
  refine then_normal ?_
  refine wp_block ?_
  obtain ⟨J_10, mu_11, h060, ht59⟩ := ht0
  refine wp_loop_st (σ := Int × World) (fun s a w => Ag 25 a [(0, Sl.v l_1), (1, .string (Bs name_2)), (6, .int .i64 s.1)] ∧ w = s.2 ∧ J_10 s.1 s.2) (fun s => mu_11 s.1 s.2) (0, w) ⟨hA7.keep [(0, Sl.v l_1), (1, .string (Bs name_2)), (6, .int .i64 0)] ⟨rfl, rfl, rfl, trivial⟩, rfl, h060⟩ ?_
  rintro ⟨i_8, w9⟩ a58 w_ ⟨hA58, hw_, hJ62⟩
  have hw_ : w9 = w_ := hw_.symm
  subst hw_
  have ht61 := ht59 i_8 _ hJ62
  refine wp_seq ?_
  refine wp_seq ?_
  refine wp_region_lit ?_
  refine sq (opk_val hA58 rfl (r_move (hA58.get rfl)) fun a63 hA63 _ => ?_)
  refine sq (opk_val hA63 rfl (r_move (hA63.get rfl)) fun a64 hA64 _ => ?_)
  refine sq (opk_val hA64 rfl (r_len (hA64.get rfl) Try.underlying23) fun a65 hA65 _ => ?_)
  refine sq (opk_val hA65 rfl (r_lss (hA65.get rfl) (hA65.get rfl)) fun a66 hA66 _ => ?_)
  refine sq_end ?_
  have hA67 := hA66.keep [(0, Sl.v l_1), (1, .string (Bs name_2)), (6, .int .i64 i_8), (10, .bool (decide (i_8 < (l_1.n : Int))))] ⟨rfl, rfl, rfl, rfl, trivial⟩
  refine then_normal ?_
  refine wp_cond_split (hA67.get rfl) (fun hc => ?_) (fun hc => ?_)
  · have ht68 := ht61.1 (of_decide_eq_true hc)
    clear hc
    refine wp_skip ?_
    refine then_normal ?_
    refine wp_seq ?_
    refine wp_block ?_
    refine wp_seq ?_
    refine wp_region_lit ?_
    refine sq (opk_val hA67 rfl (r_move (hA67.get rfl)) fun a70 hA70 _ => ?_)
    refine sq (opk_val hA70 rfl (r_move (hA70.get rfl)) fun a71 hA71 _ => ?_)
    obtain ⟨hb73, p_72, hp74, ht75⟩ := ht68
    refine sq (opk_val hA71 rfl (r_indexAddr (hA71.get rfl) (hA71.get rfl) Try.underlying23 ti_33 hb73 hp74) fun a76 hA76 _ => ?_)
    refine sq (opk_val hA76 rfl (r_fieldAddr (hA76.get rfl) Try.underlying33 rfl ti_9 (by decide)) fun a77 hA77 _ => ?_)
    obtain ⟨x_79, hx80, ht81⟩ := ht75
    refine sq (opk_val hA77 rfl (r_load1 Try.underlying9 rfl (hA77.get rfl) hx80) fun a78 hA78 _ => ?_)
    refine sq (opk_val hA78 rfl (r_move (hA78.get rfl)) fun a82 hA82 _ => ?_)
    refine sq (opk_val hA82 rfl (r_seql (hA82.get rfl) (hA82.get rfl)) fun a83 hA83 _ => ?_)
    refine sq_end ?_
    have hA84 := hA83.keep [(0, Sl.v l_1), (1, .string (Bs name_2)), (6, .int .i64 i_8), (19, .bool (decide (x_79 = name_2)))] ⟨rfl, rfl, rfl, rfl, trivial⟩
    refine then_normal ?_
    refine wp_cond_split (hA84.get rfl) (fun hc => ?_) (fun hc => ?_)
    · have ht85 := ht81.1 (of_decide_eq_true hc)
      clear hc
      refine wp_seq ?_
      refine wp_region_lit ?_
      refine sq (opk_val hA84 rfl (r_move (hA84.get rfl)) fun a87 hA87 _ => ?_)
      refine sq (opk_val hA87 rfl (r_move (hA87.get rfl)) fun a88 hA88 _ => ?_)
      obtain ⟨hb90, p_89, hp91, ht92⟩ := ht85
      refine sq (opk_val hA88 rfl (r_indexAddr (hA88.get rfl) (hA88.get rfl) Try.underlying23 ti_33 hb90 hp91) fun a93 hA93 _ => ?_)
      refine sq (opk_val hA93 rfl (r_fieldAddr (hA93.get rfl) Try.underlying33 rfl ti_9 (by decide)) fun a94 hA94 _ => ?_)
      obtain ⟨x_96, hx97, ht98⟩ := ht92
      refine sq (opk_val hA94 rfl (r_load1 Try.underlying9 rfl (hA94.get rfl) hx97) fun a95 hA95 _ => ?_)
      refine sq (opk_val hA95 rfl (r_assign (hA95.get rfl)) fun a99 hA99 _ => ?_)
      refine sq (opk_val hA99 rfl (r_assign rfl) fun a100 hA100 _ => ?_)
      refine sq_end ?_
      have hA101 := hA100.keep [(4, .string (Bs x_96)), (5, .bool true)] ⟨rfl, rfl, trivial⟩
      refine then_normal ?_
      refine wp_ret ?_
      refine block_ret ?_
      refine then_ret ?_
      refine then_ret ?_
      refine block_ret ?_
      refine then_ret ?_
      exact res_all (vs := [.string (Bs x_96), .bool true]) rfl hA101 ⟨res_of_tmp hA101 rfl, res_of_tmp hA101 rfl, trivial⟩ ht98
    · have ht86 := ht81.2 (of_decide_eq_false hc)
      clear hc
      refine wp_skip ?_
      refine block_normal ?_
      refine then_normal ?_
      refine wp_region_lit ?_
      refine sq (opk_val hA84 rfl (r_move (hA84.get rfl)) fun a102 hA102 _ => ?_)
      obtain ⟨hS104, ht105⟩ := ht86
      refine sq (opk_val hA102 rfl (r_addI (hA102.get rfl) rfl hS104) fun a103 hA103 _ => ?_)
      refine sq (opk_val hA103 rfl (r_assign (hA103.get rfl)) fun a106 hA106 _ => ?_)
      refine sq_end ?_
      have hA107 := hA106.keep [(0, Sl.v l_1), (1, .string (Bs name_2)), (6, .int .i64 (i_8 + 1))] ⟨rfl, rfl, rfl, trivial⟩
      have hA108 := hA107.keep [(0, Sl.v l_1), (1, .string (Bs name_2)), (6, .int .i64 (i_8 + 1))] ⟨rfl, rfl, rfl, trivial⟩
      exact then_normal ⟨(i_8 + 1, w9), ⟨hA108, rfl, ht105.1⟩, ht105.2⟩
  · have ht69 := ht61.2 (of_decide_eq_false hc)
    clear hc
    refine wp_exit ?_
    refine then_exit ?_
    refine then_exit ?_
    refine block_hit ?_
    have hA109 := hA67.keep [] trivial
    refine then_normal ?_
    refine wp_seq ?_
    refine wp_region_lit ?_
    refine sq (opk_val hA109 rfl (r_assign rfl) fun a110 hA110 _ => ?_)
    refine sq (opk_val hA110 rfl (r_assign rfl) fun a111 hA111 _ => ?_)
    refine sq_end ?_
    have hA112 := hA111.keep [(4, .string (Bs ([] : Str))), (5, .bool false)] ⟨rfl, rfl, trivial⟩
    refine then_normal ?_
    refine wp_ret ?_
    exact res_all (vs := [.string (Bs ([] : Str)), .bool false]) rfl hA112 ⟨res_of_tmp hA112 rfl, res_of_tmp hA112 rfl, trivial⟩ ht69

/-- The condition of topiary/topiaryref05.Check. -/
def ref05_Check.vc (t_1_Kind : Int) (t_1_Name : Str) (t_1_Text : Str) (t_1_Attrs : Sl) (t_1_Kids : Sl) (R : Value → World → Prop) (w : World) : Prop :=
∀ (w3 : World) (B_2 : Nat), New w B_2 w3 → Chg [] w w3 →
∃ (r_18 : Int), (((t_1_Kind = 1)) → Calls Try.prog 29 #[.agg #[.int .i64 t_1_Kind, .string (Bs t_1_Name), .string (Bs t_1_Text), Sl.v t_1_Attrs, Sl.v t_1_Kids]] w3 (Ret fun v w' => Ext w3 w' ∧ v = .int .i64 r_18)) ∧
(∀ w20 : World, Ext w3 w20 →
∃ (r_31 : Int), ((((t_1_Kind = 1) ∧ (r_18 ≤ 300))) → Calls Try.prog 30 #[.agg #[.int .i64 t_1_Kind, .string (Bs t_1_Name), .string (Bs t_1_Text), Sl.v t_1_Attrs, Sl.v t_1_Kids]] w20 (Ret fun v w' => Ext w20 w' ∧ v = .int .i64 r_31)) ∧
(∀ w33 : World, Ext w20 w33 →
∃ (r_44 : Bool), (((((t_1_Kind = 1) ∧ (r_18 ≤ 300)) ∧ (r_31 ≤ 60))) → Calls Try.prog 43 #[.agg #[.int .i64 t_1_Kind, .string (Bs t_1_Name), .string (Bs t_1_Text), Sl.v t_1_Attrs, Sl.v t_1_Kids], .bool true, .bool false] w33 (Ret fun v w' => Ext w33 w' ∧ v = .bool r_44)) ∧
(∀ w46 : World, Ext w33 w46 →
R (.bool ((((decide (t_1_Kind = 1)) && (decide (r_18 ≤ 300))) && (decide (r_31 ≤ 60))) && r_44)) w46)))
set_option maxHeartbeats 1000000 in
set_option maxRecDepth 10000 in
theorem ref05_Check.ok (t_1_Kind : Int) (t_1_Name : Str) (t_1_Text : Str) (t_1_Attrs : Sl) (t_1_Kids : Sl) {R : Value → World → Prop} {w : World} (ht0 : ref05_Check.vc t_1_Kind t_1_Name t_1_Text t_1_Attrs t_1_Kids R w) : Calls Try.prog 27 #[.agg #[.int .i64 t_1_Kind, .string (Bs t_1_Name), .string (Bs t_1_Text), Sl.v t_1_Attrs, Sl.v t_1_Kids]] w (Ret R) := by
  refine enter [.agg #[.int .i64 t_1_Kind, .string (Bs t_1_Name), .string (Bs t_1_Text), Sl.v t_1_Attrs, Sl.v t_1_Kids]] Try.func27 rfl Try.ntmps27 rfl ?_
  intro a0 hA0
  unfold ref05_Check.vc at ht0
  refine wp_seq ?_
  refine wp_region_lit ?_
  refine sq (opk_new (fun B => .pointer (some ⟨B, 0, none⟩)) hA0 rfl (r_box (cs := [.int .i64 t_1_Kind, .string (Bs t_1_Name), .string (Bs t_1_Text), Sl.v t_1_Attrs, Sl.v t_1_Kids]) (hA0.get rfl) rfl) fun a4 w3 B_2 hE5 hN6 hB7 hA4 _ => ?_)
  have hN8 : New w B_2 w3 := hN6
  have hC9 : Chg [] w w3 := hE5
  refine sq (opk_val hA4 rfl (r_assign rfl) fun a10 hA10 _ => ?_)
  refine sq_end ?_
  have hA11 := hA10.keep [(1, .pointer (some ⟨B_2, 0, none⟩))] ⟨rfl, trivial⟩
  refine then_normal ?_
  refine wp_seq ?_
  refine wp_region_lit ?_
  refine sq (opk_val hA11 rfl (r_fieldAddr (hA11.get rfl) Try.underlying26 rfl ti_3 (by decide)) fun a12 hA12 _ => ?_)
  refine sq (opk_val hA12 rfl (r_load1 Try.underlying3 rfl (hA12.get rfl) (hB7.cell 0 _ rfl)) fun a13 hA13 _ => ?_)
  refine sq (opk_val hA13 rfl (r_eql (hA13.get rfl) rfl) fun a14 hA14 _ => ?_)
  refine sq (opk_val hA14 rfl (r_move (hA14.get rfl)) fun a15 hA15 _ => ?_)
  refine sq (opk_gval hA15 rfl rfl (g := true) (e := (decide (t_1_Kind = 1))) rfl (fun hg => r_loadN (cs := [.int .i64 t_1_Kind, .string (Bs t_1_Name), .string (Bs t_1_Text), Sl.v t_1_Attrs, Sl.v t_1_Kids]) Try.underlying26 rfl ti_26 (hA15.get rfl) (hB7.part 0 _ rfl)) fun a16 hA16 _ => ?_)
  have ht17 := ht0 w3 B_2 hN8  hC9
  obtain ⟨r_18, hc22, ht21⟩ := ht17
  refine sq (opk_gcall hA16 rfl rfl (g := true) (e := (decide (t_1_Kind = 1))) rfl (fun hg => r_call (args := #[.agg #[.int .i64 t_1_Kind, .string (Bs t_1_Name), .string (Bs t_1_Text), Sl.v t_1_Attrs, Sl.v t_1_Kids]]) Try.func29 (by decide) rfl (map_arr (ml_cons (cv_get (hA16.get rfl) hg) ml_nil)) rfl) (fun hg => hc22 (of_decide_eq_true (g_t hg))) fun a19 w20 hA19 _ hE23 => ?_)
  have hB24 := hB7.ext hE23
  have hC25 : Chg [] w3 w20 := hE23
  have ht26 := ht21 w20 hE23
  refine sq (opk_gval hA19 rfl rfl (g := true) (e := (decide (t_1_Kind = 1))) rfl (fun hg => r_leq (cv_get (hA19.get rfl) hg) rfl) fun a27 hA27 _ => ?_)
  refine sq (opk_val hA27 rfl (r_pick_and (g := (true && ((decide (t_1_Kind = 1)) == true))) (hA27.get rfl) (hA27.get rfl) (fun he => g_mkt rfl he)) fun a28 hA28 _ => ?_)
  refine sq (opk_val hA28 rfl (r_move (hA28.get rfl)) fun a29 hA29 _ => ?_)
  refine sq (opk_gval hA29 rfl rfl (g := true) (e := ((decide (t_1_Kind = 1)) && (decide (r_18 ≤ 300)))) rfl (fun hg => r_loadN (cs := [.int .i64 t_1_Kind, .string (Bs t_1_Name), .string (Bs t_1_Text), Sl.v t_1_Attrs, Sl.v t_1_Kids]) Try.underlying26 rfl ti_26 (hA29.get rfl) (hB24.part 0 _ rfl)) fun a30 hA30 _ => ?_)
  obtain ⟨r_31, hc35, ht34⟩ := ht26
  refine sq (opk_gcall hA30 rfl rfl (g := true) (e := ((decide (t_1_Kind = 1)) && (decide (r_18 ≤ 300)))) rfl (fun hg => r_call (args := #[.agg #[.int .i64 t_1_Kind, .string (Bs t_1_Name), .string (Bs t_1_Text), Sl.v t_1_Attrs, Sl.v t_1_Kids]]) Try.func30 (by decide) rfl (map_arr (ml_cons (cv_get (hA30.get rfl) hg) ml_nil)) rfl) (fun hg => hc35 ⟨(of_decide_eq_true (b_and_t (g_t hg)).1), (of_decide_eq_true (b_and_t (g_t hg)).2)⟩) fun a32 w33 hA32 _ hE36 => ?_)
  have hB37 := hB24.ext hE36
  have hC38 : Chg [] w20 w33 := hE36
  have ht39 := ht34 w33 hE36
  refine sq (opk_gval hA32 rfl rfl (g := true) (e := ((decide (t_1_Kind = 1)) && (decide (r_18 ≤ 300)))) rfl (fun hg => r_leq (cv_get (hA32.get rfl) hg) rfl) fun a40 hA40 _ => ?_)
  refine sq (opk_val hA40 rfl (r_pick_and (g := (true && (((decide (t_1_Kind = 1)) && (decide (r_18 ≤ 300))) == true))) (hA40.get rfl) (hA40.get rfl) (fun he => g_mkt rfl he)) fun a41 hA41 _ => ?_)
  refine sq (opk_val hA41 rfl (r_move (hA41.get rfl)) fun a42 hA42 _ => ?_)
  refine sq (opk_gval hA42 rfl rfl (g := true) (e := (((decide (t_1_Kind = 1)) && (decide (r_18 ≤ 300))) && (decide (r_31 ≤ 60)))) rfl (fun hg => r_loadN (cs := [.int .i64 t_1_Kind, .string (Bs t_1_Name), .string (Bs t_1_Text), Sl.v t_1_Attrs, Sl.v t_1_Kids]) Try.underlying26 rfl ti_26 (hA42.get rfl) (hB37.part 0 _ rfl)) fun a43 hA43 _ => ?_)
  obtain ⟨r_44, hc48, ht47⟩ := ht39
  refine sq (opk_gcall hA43 rfl rfl (g := true) (e := (((decide (t_1_Kind = 1)) && (decide (r_18 ≤ 300))) && (decide (r_31 ≤ 60)))) rfl (fun hg => r_call (args := #[.agg #[.int .i64 t_1_Kind, .string (Bs t_1_Name), .string (Bs t_1_Text), Sl.v t_1_Attrs, Sl.v t_1_Kids], .bool true, .bool false]) Try.func43 (by decide) rfl (map_arr (ml_cons (cv_get (hA43.get rfl) hg) (ml_cons rfl (ml_cons rfl ml_nil)))) rfl) (fun hg => hc48 ⟨⟨(of_decide_eq_true (b_and_t (b_and_t (g_t hg)).1).1), (of_decide_eq_true (b_and_t (b_and_t (g_t hg)).1).2)⟩, (of_decide_eq_true (b_and_t (g_t hg)).2)⟩) fun a45 w46 hA45 _ hE49 => ?_)
  have hB50 := hB37.ext hE49
  have hC51 : Chg [] w33 w46 := hE49
  have ht52 := ht47 w46 hE49
  refine sq (opk_val hA45 rfl (r_pick_and (g := (true && ((((decide (t_1_Kind = 1)) && (decide (r_18 ≤ 300))) && (decide (r_31 ≤ 60))) == true))) (hA45.get rfl) (hA45.get rfl) (fun he => g_mkt rfl he)) fun a53 hA53 _ => ?_)
  refine sq (opk_val hA53 rfl (r_assign (hA53.get rfl)) fun a54 hA54 _ => ?_)
  refine sq_end ?_
  have hA55 := hA54.keep [(2, .bool ((((decide (t_1_Kind = 1)) && (decide (r_18 ≤ 300))) && (decide (r_31 ≤ 60))) && r_44))] ⟨rfl, trivial⟩
  refine then_normal ?_
  refine wp_ret ?_
  exact res_all (vs := [.bool ((((decide (t_1_Kind = 1)) && (decide (r_18 ≤ 300))) && (decide (r_31 ≤ 60))) && r_44)]) rfl hA55 ⟨res_of_tmp hA55 rfl, trivial⟩ ht52

end Go.Proofs.Ytpacegmmbabhjaa
