/-
  PRINTED BY PROGRAM: for each function its condition (vc), and that this suffices (ok).
-/
import Derived.Test.YtpacegmmbabhjaaGT
namespace Go.Proofs.Ytpacegmmbabhjaa
open Go.RowKit
set_option linter.unusedVariables false

/-- The condition of topiary/tree.Slots. -/
def tree_Slots.vc (t_1_Kind : Int) (t_1_Name : Str) (t_1_Text : Str) (t_1_Attrs : Sl) (t_1_Kids : Sl) (R : Value → World → Prop) (w : World) : Prop :=
∀ (w3 : World) (B_2 : Nat), New w B_2 w3 → Chg [] w w3 →
∃ (J_25 : Int → Int → World → Prop) (mu_26 : Int → Int → World → Nat),
J_25 (t_1_Attrs.n : Int) 0 w3 ∧
(∀ (n_22 : Int) (x_23 : Int) (w24 : World), J_25 n_22 x_23 w24 →
((x_23 < (t_1_Kids.n : Int)) →
((0 : Int) ≤ x_23 ∧ x_23 < (t_1_Kids.n : Int)) ∧ ∃ p_89 : Addr, t_1_Kids.a = some p_89 ∧
∃ (x_95_Kind : Int) (x_95_Name : Str) (x_95_Text : Str) (x_95_Attrs : Sl) (x_95_Kids : Sl), (Cells w24 (p_89.add (x_23.toNat * 5)) [.int .i64 x_95_Kind, .string (Bs x_95_Name), .string (Bs x_95_Text), Sl.v x_95_Attrs, Sl.v x_95_Kids]) ∧
∀ (w106 : World) (B_98 : Nat), New w24 B_98 w106 → Chg [] w24 w106 →
CallK Try.prog 22 #[.agg #[.int .i64 x_95_Kind, .string (Bs x_95_Name), .string (Bs x_95_Text), Sl.v x_95_Attrs, Sl.v x_95_Kids]] w106 [B_98] (fun v w119 => ∃ (r_117 : Int), v = .int .i64 r_117 ∧
(I64 (n_22 + r_117)) ∧
(I64 (x_23 + 1)) ∧
J_25 (n_22 + r_117) (x_23 + 1) w119 ∧ mu_26 (n_22 + r_117) (x_23 + 1) w119 < mu_26 n_22 x_23 w24)) ∧
((¬ (x_23 < (t_1_Kids.n : Int))) →
R (.int .i64 n_22) w24))
set_option maxHeartbeats 1000000 in
set_option maxRecDepth 10000 in
theorem tree_Slots.ok (t_1_Kind : Int) (t_1_Name : Str) (t_1_Text : Str) (t_1_Attrs : Sl) (t_1_Kids : Sl) {R : Value → World → Prop} {w : World} (ht0 : tree_Slots.vc t_1_Kind t_1_Name t_1_Text t_1_Attrs t_1_Kids R w) : Calls Try.prog 22 #[.agg #[.int .i64 t_1_Kind, .string (Bs t_1_Name), .string (Bs t_1_Text), Sl.v t_1_Attrs, Sl.v t_1_Kids]] w (Ret R) := by
  refine enter [.agg #[.int .i64 t_1_Kind, .string (Bs t_1_Name), .string (Bs t_1_Text), Sl.v t_1_Attrs, Sl.v t_1_Kids]] Try.func22 rfl Try.ntmps22 rfl ?_
  intro a0 hA0
  unfold tree_Slots.vc at ht0
  refine wp_seq ?_
  refine wp_region_lit ?_
  refine sq (opk_new (fun B => .pointer (some ⟨B, 0, none⟩)) hA0 rfl (r_box (cs := [.int .i64 t_1_Kind, .string (Bs t_1_Name), .string (Bs t_1_Text), Sl.v t_1_Attrs, Sl.v t_1_Kids]) (hA0.get rfl) rfl) fun a4 w3 B_2 hE5 hN6 hB7 hA4 _ => ?_)
  have hN8 : New w B_2 w3 := hN6
  have hC9 : Chg [] w w3 := hE5
  refine sq (opk_val hA4 rfl (r_assign rfl) fun a10 hA10 _ => ?_)
  refine sq_end ?_
  have hA11 := hA10.keep [(1, .pointer (some ⟨B_2, 0, none⟩))] ⟨rfl, trivial⟩
  refine then_normal ?_
  refine wp_seq ?_
  refine wp_region_lit ?_
  refine sq (opk_val hA11 rfl (r_fieldAddr (hA11.get rfl) Try.underlying26 rfl ti_23 (by decide)) fun a12 hA12 _ => ?_)
  refine sq (opk_val hA12 rfl (r_load1 Try.underlying23 rfl (hA12.get rfl) (hB7.cell 3 _ rfl)) fun a13 hA13 _ => ?_)
  refine sq (opk_val hA13 rfl (r_len (hA13.get rfl) Try.underlying23) fun a14 hA14 _ => ?_)
  refine sq (opk_val hA14 rfl (r_assign (hA14.get rfl)) fun a15 hA15 _ => ?_)
  refine sq_end ?_
  have hA16 := hA15.keep [(1, .pointer (some ⟨B_2, 0, none⟩)), (3, .int .i64 (t_1_Attrs.n : Int))] ⟨rfl, rfl, trivial⟩
  refine then_normal ?_
  refine wp_seq ?_
  refine wp_seq ?_
  refine wp_region_lit ?_
  refine sq (opk_val hA16 rfl (r_fieldAddr (hA16.get rfl) Try.underlying26 rfl ti_24 (by decide)) fun a17 hA17 _ => ?_)
  refine sq (opk_val hA17 rfl (r_load1 Try.underlying24 rfl (hA17.get rfl) (hB7.cell 4 _ rfl)) fun a18 hA18 _ => ?_)
  refine sq (opk_val hA18 rfl (r_len (hA18.get rfl) Try.underlying24) fun a19 hA19 _ => ?_)
  refine sq (opk_val hA19 rfl (r_move rfl) fun a20 hA20 _ => ?_)
  refine sq_end ?_
  have hA21 := hA20.keep [(3, .int .i64 (t_1_Attrs.n : Int)), (10, Sl.v t_1_Kids), (11, .int .i64 (t_1_Kids.n : Int)), (12, .int .i64 0)] ⟨rfl, rfl, rfl, rfl, trivial⟩
  refine then_normal ?_
  refine wp_block ?_
  have ht79 := ht0 w3 B_2 hN8  hC9
  obtain ⟨J_25, mu_26, h082, ht81⟩ := ht79
  refine wp_loop_st (σ := Int × Int × World) (fun s a w => Ag 22 a [(3, .int .i64 s.1), (10, Sl.v t_1_Kids), (11, .int .i64 (t_1_Kids.n : Int)), (12, .int .i64 s.2.1)] ∧ w = s.2.2 ∧ J_25 s.1 s.2.1 s.2.2) (fun s => mu_26 s.1 s.2.1 s.2.2) ((t_1_Attrs.n : Int), 0, w3) ⟨hA21.keep [(3, .int .i64 (t_1_Attrs.n : Int)), (10, Sl.v t_1_Kids), (11, .int .i64 (t_1_Kids.n : Int)), (12, .int .i64 0)] ⟨rfl, rfl, rfl, rfl, trivial⟩, rfl, h082⟩ ?_
  rintro ⟨n_22, x_23, w24⟩ a80 w_ ⟨hA80, hw_, hJ84⟩
  have hw_ : w24 = w_ := hw_.symm
  subst hw_
  have ht83 := ht81 n_22 x_23 _ hJ84
  refine wp_seq ?_
  refine wp_region_lit ?_
  refine sq (opk_val hA80 rfl (r_lss (hA80.get rfl) (hA80.get rfl)) fun a85 hA85 _ => ?_)
  refine sq_end ?_
  have hA86 := hA85.keep [(3, .int .i64 n_22), (10, Sl.v t_1_Kids), (11, .int .i64 (t_1_Kids.n : Int)), (12, .int .i64 x_23), (13, .bool (decide (x_23 < (t_1_Kids.n : Int))))] ⟨rfl, rfl, rfl, rfl, rfl, trivial⟩
  refine then_normal ?_
  refine wp_seq ?_
  refine wp_cond_split (hA86.get rfl) (fun hc => ?_) (fun hc => ?_)
  · have ht87 := ht83.1 (of_decide_eq_true hc)
    clear hc
    refine wp_skip ?_
    refine then_normal ?_
    refine wp_seq ?_
    refine wp_block ?_
    refine wp_seq ?_
    refine wp_region_lit ?_
    obtain ⟨hb90, p_89, hp91, ht92⟩ := ht87
    refine sq (opk_val hA86 rfl (r_indexAddr (hA86.get rfl) (hA86.get rfl) Try.underlying24 ti_26 hb90 hp91) fun a93 hA93 _ => ?_)
    obtain ⟨x_95_Kind, x_95_Name, x_95_Text, x_95_Attrs, x_95_Kids, hx96, ht97⟩ := ht92
    refine sq (opk_val hA93 rfl (r_loadN Try.underlying26 rfl ti_26 (hA93.get rfl) hx96) fun a94 hA94 _ => ?_)
    refine sq (opk_new (fun B => .pointer (some ⟨B, 0, none⟩)) hA94 rfl (r_alloc (cs := [.int .i64 0, .string (Bs ([] : Str)), .string (Bs ([] : Str)), Sl.v Sl.nil, Sl.v Sl.nil]) ti_26 rfl) fun a100 w99 B_98 hE101 hN102 hB103 hA100 _ => ?_)
    have hN104 : New w24 B_98 w99 := hN102
    have hC105 : Chg [] w24 w99 := hE101
    refine sq (opk_store hA100 hB103 (r_store (vs := [.int .i64 x_95_Kind, .string (Bs x_95_Name), .string (Bs x_95_Text), Sl.v x_95_Attrs, Sl.v x_95_Kids]) (hA100.get rfl) (hA100.get rfl) rfl ti_26 hB103 rfl (ones_all [.int .i64 x_95_Kind, .string (Bs x_95_Name), .string (Bs x_95_Text), Sl.v x_95_Attrs, Sl.v x_95_Kids] rfl)) fun a107 w106 hS108 hB109 hA107 => ?_)
    have hB110 : Box w106 B_98 26 [.int .i64 x_95_Kind, .string (Bs x_95_Name), .string (Bs x_95_Text), Sl.v x_95_Attrs, Sl.v x_95_Kids] := hB109
    have hC111 := hC105.storeNew hN104 hS108
    have hN112 := hN104.up hS108.size
    refine sq_end ?_
    have hA113 := hA107.keep [(3, .int .i64 n_22), (5, .pointer (some ⟨B_98, 0, none⟩)), (10, Sl.v t_1_Kids), (11, .int .i64 (t_1_Kids.n : Int)), (12, .int .i64 x_23)] ⟨rfl, rfl, rfl, rfl, rfl, trivial⟩
    refine then_normal ?_
    refine wp_region_lit ?_
    refine sq (opk_val hA113 rfl (r_move (hA113.get rfl)) fun a114 hA114 _ => ?_)
    refine sq (opk_val hA114 rfl (r_loadN (cs := [.int .i64 x_95_Kind, .string (Bs x_95_Name), .string (Bs x_95_Text), Sl.v x_95_Attrs, Sl.v x_95_Kids]) Try.underlying26 rfl ti_26 (hA114.get rfl) (hB110.part 0 _ rfl)) fun a115 hA115 _ => ?_)
    have ht116 := ht97 w106 B_98 hN112  hC111
    refine sq (opk_call hA115 rfl (r_call (args := #[.agg #[.int .i64 x_95_Kind, .string (Bs x_95_Name), .string (Bs x_95_Text), Sl.v x_95_Attrs, Sl.v x_95_Kids]]) Try.func22 (by decide) rfl (map_arr (ml_cons (hA115.get rfl) ml_nil)) rfl) ht116 fun a118 v124 w119 hA118 _ hn121 hz122 hK123 => ?_)
    obtain ⟨r_117, rfl, ht120⟩ := hK123
    have hB125 := hB110.kept hn121 (.head _)
    obtain ⟨hS127, ht128⟩ := ht120
    refine sq (opk_val hA118 rfl (r_addI (hA118.get rfl) (hA118.get rfl) hS127) fun a126 hA126 _ => ?_)
    refine sq (opk_val hA126 rfl (r_assign (hA126.get rfl)) fun a129 hA129 _ => ?_)
    refine sq_end ?_
    have hA130 := hA129.keep [(3, .int .i64 (n_22 + r_117)), (10, Sl.v t_1_Kids), (11, .int .i64 (t_1_Kids.n : Int)), (12, .int .i64 x_23)] ⟨rfl, rfl, rfl, rfl, trivial⟩
    refine block_normal ?_
    refine then_normal ?_
    refine wp_region_lit ?_
    obtain ⟨hS132, ht133⟩ := ht128
    refine sq (opk_val hA130 rfl (r_addI (hA130.get rfl) rfl hS132) fun a131 hA131 _ => ?_)
    refine sq (opk_val hA131 rfl (r_move (hA131.get rfl)) fun a134 hA134 _ => ?_)
    refine sq_end ?_
    have hA135 := hA134.keep [(3, .int .i64 (n_22 + r_117)), (10, Sl.v t_1_Kids), (11, .int .i64 (t_1_Kids.n : Int)), (12, .int .i64 (x_23 + 1))] ⟨rfl, rfl, rfl, rfl, trivial⟩
    have hA136 := hA135.keep [(3, .int .i64 (n_22 + r_117)), (10, Sl.v t_1_Kids), (11, .int .i64 (t_1_Kids.n : Int)), (12, .int .i64 (x_23 + 1))] ⟨rfl, rfl, rfl, rfl, trivial⟩
    exact then_normal ⟨(n_22 + r_117, x_23 + 1, w119), ⟨hA136, rfl, ht133.1⟩, ht133.2⟩
  · have ht88 := ht83.2 (of_decide_eq_false hc)
    clear hc
    refine wp_exit ?_
    refine then_exit ?_
    refine then_exit ?_
    refine block_hit ?_
    have hA137 := hA86.keep [(3, .int .i64 n_22)] ⟨rfl, trivial⟩
    refine then_normal ?_
    refine wp_seq ?_
    refine wp_region_lit ?_
    refine sq (opk_val hA137 rfl (r_move (hA137.get rfl)) fun a138 hA138 _ => ?_)
    refine sq (opk_val hA138 rfl (r_assign (hA138.get rfl)) fun a139 hA139 _ => ?_)
    refine sq_end ?_
    have hA140 := hA139.keep [(2, .int .i64 n_22)] ⟨rfl, trivial⟩
    refine then_normal ?_
    refine wp_ret ?_
    exact res_all (vs := [.int .i64 n_22]) rfl hA140 ⟨res_of_tmp hA140 rfl, trivial⟩ ht88

/-- The condition of topiary/tree.Attr. -/
def tree_Attr.vc (t_1_Kind : Int) (t_1_Name : Str) (t_1_Text : Str) (t_1_Attrs : Sl) (t_1_Kids : Sl) (name_2 : Str) (R : Value → World → Prop) (w : World) : Prop :=
∀ (w4 : World) (B_3 : Nat), New w B_3 w4 → Chg [] w w4 →
∃ (J_21 : Int → World → Prop) (mu_22 : Int → World → Nat),
J_21 0 w4 ∧
(∀ (x_19 : Int) (w20 : World), J_21 x_19 w20 →
((x_19 < (t_1_Attrs.n : Int)) →
((0 : Int) ≤ x_19 ∧ x_19 < (t_1_Attrs.n : Int)) ∧ ∃ p_80 : Addr, t_1_Attrs.a = some p_80 ∧
∃ (x_86_Name : Str) (x_86_Value : Str), (Cells w20 (p_80.add (x_19.toNat * 2)) [.string (Bs x_86_Name), .string (Bs x_86_Value)]) ∧
((x_86_Name = name_2) →
∀ (w97 : World) (B_89 : Nat), New w20 B_89 w97 → Chg [] w20 w97 →
R (.tuple #[.string (Bs x_86_Value), .bool true]) w97) ∧
((¬ (x_86_Name = name_2)) →
(I64 (x_19 + 1)) ∧
∀ (w97 : World) (B_89 : Nat), New w20 B_89 w97 → Chg [] w20 w97 →
J_21 (x_19 + 1) w97 ∧ mu_22 (x_19 + 1) w97 < mu_22 x_19 w20)) ∧
((¬ (x_19 < (t_1_Attrs.n : Int))) →
R (.tuple #[.string (Bs ([] : Str)), .bool false]) w20))
set_option maxHeartbeats 1000000 in
set_option maxRecDepth 10000 in
theorem tree_Attr.ok (t_1_Kind : Int) (t_1_Name : Str) (t_1_Text : Str) (t_1_Attrs : Sl) (t_1_Kids : Sl) (name_2 : Str) {R : Value → World → Prop} {w : World} (ht0 : tree_Attr.vc t_1_Kind t_1_Name t_1_Text t_1_Attrs t_1_Kids name_2 R w) : Calls Try.prog 23 #[.agg #[.int .i64 t_1_Kind, .string (Bs t_1_Name), .string (Bs t_1_Text), Sl.v t_1_Attrs, Sl.v t_1_Kids], .string (Bs name_2)] w (Ret R) := by
  refine enter [.agg #[.int .i64 t_1_Kind, .string (Bs t_1_Name), .string (Bs t_1_Text), Sl.v t_1_Attrs, Sl.v t_1_Kids], .string (Bs name_2)] Try.func23 rfl Try.ntmps23 rfl ?_
  intro a0 hA0
  unfold tree_Attr.vc at ht0
  refine wp_seq ?_
  refine wp_region_lit ?_
  refine sq (opk_new (fun B => .pointer (some ⟨B, 0, none⟩)) hA0 rfl (r_box (cs := [.int .i64 t_1_Kind, .string (Bs t_1_Name), .string (Bs t_1_Text), Sl.v t_1_Attrs, Sl.v t_1_Kids]) (hA0.get rfl) rfl) fun a5 w4 B_3 hE6 hN7 hB8 hA5 _ => ?_)
  have hN9 : New w B_3 w4 := hN7
  have hC10 : Chg [] w w4 := hE6
  refine sq (opk_val hA5 rfl (r_assign rfl) fun a11 hA11 _ => ?_)
  refine sq (opk_val hA11 rfl (r_assign rfl) fun a12 hA12 _ => ?_)
  refine sq_end ?_
  have hA13 := hA12.keep [(1, .string (Bs name_2)), (2, .pointer (some ⟨B_3, 0, none⟩))] ⟨rfl, rfl, trivial⟩
  refine then_normal ?_
  refine wp_seq ?_
  refine wp_seq ?_
  refine wp_region_lit ?_
  refine sq (opk_val hA13 rfl (r_fieldAddr (hA13.get rfl) Try.underlying26 rfl ti_23 (by decide)) fun a14 hA14 _ => ?_)
  refine sq (opk_val hA14 rfl (r_load1 Try.underlying23 rfl (hA14.get rfl) (hB8.cell 3 _ rfl)) fun a15 hA15 _ => ?_)
  refine sq (opk_val hA15 rfl (r_len (hA15.get rfl) Try.underlying23) fun a16 hA16 _ => ?_)
  refine sq (opk_val hA16 rfl (r_move rfl) fun a17 hA17 _ => ?_)
  refine sq_end ?_
  have hA18 := hA17.keep [(1, .string (Bs name_2)), (9, Sl.v t_1_Attrs), (10, .int .i64 (t_1_Attrs.n : Int)), (11, .int .i64 0)] ⟨rfl, rfl, rfl, rfl, trivial⟩
  refine then_normal ?_
  refine wp_block ?_
  have ht70 := ht0 w4 B_3 hN9  hC10
  obtain ⟨J_21, mu_22, h073, ht72⟩ := ht70
  refine wp_loop_st (σ := Int × World) (fun s a w => Ag 22 a [(1, .string (Bs name_2)), (9, Sl.v t_1_Attrs), (10, .int .i64 (t_1_Attrs.n : Int)), (11, .int .i64 s.1)] ∧ w = s.2 ∧ J_21 s.1 s.2) (fun s => mu_22 s.1 s.2) (0, w4) ⟨hA18.keep [(1, .string (Bs name_2)), (9, Sl.v t_1_Attrs), (10, .int .i64 (t_1_Attrs.n : Int)), (11, .int .i64 0)] ⟨rfl, rfl, rfl, rfl, trivial⟩, rfl, h073⟩ ?_
  rintro ⟨x_19, w20⟩ a71 w_ ⟨hA71, hw_, hJ75⟩
  have hw_ : w20 = w_ := hw_.symm
  subst hw_
  have ht74 := ht72 x_19 _ hJ75
  refine wp_seq ?_
  refine wp_region_lit ?_
  refine sq (opk_val hA71 rfl (r_lss (hA71.get rfl) (hA71.get rfl)) fun a76 hA76 _ => ?_)
  refine sq_end ?_
  have hA77 := hA76.keep [(1, .string (Bs name_2)), (9, Sl.v t_1_Attrs), (10, .int .i64 (t_1_Attrs.n : Int)), (11, .int .i64 x_19), (12, .bool (decide (x_19 < (t_1_Attrs.n : Int))))] ⟨rfl, rfl, rfl, rfl, rfl, trivial⟩
  refine then_normal ?_
  refine wp_seq ?_
  refine wp_cond_split (hA77.get rfl) (fun hc => ?_) (fun hc => ?_)
  · have ht78 := ht74.1 (of_decide_eq_true hc)
    clear hc
    refine wp_skip ?_
    refine then_normal ?_
    refine wp_seq ?_
    refine wp_block ?_
    refine wp_seq ?_
    refine wp_region_lit ?_
    obtain ⟨hb81, p_80, hp82, ht83⟩ := ht78
    refine sq (opk_val hA77 rfl (r_indexAddr (hA77.get rfl) (hA77.get rfl) Try.underlying23 ti_33 hb81 hp82) fun a84 hA84 _ => ?_)
    obtain ⟨x_86_Name, x_86_Value, hx87, ht88⟩ := ht83
    refine sq (opk_val hA84 rfl (r_loadN Try.underlying33 rfl ti_33 (hA84.get rfl) hx87) fun a85 hA85 _ => ?_)
    refine sq (opk_new (fun B => .pointer (some ⟨B, 0, none⟩)) hA85 rfl (r_alloc (cs := [.string (Bs ([] : Str)), .string (Bs ([] : Str))]) ti_33 rfl) fun a91 w90 B_89 hE92 hN93 hB94 hA91 _ => ?_)
    have hN95 : New w20 B_89 w90 := hN93
    have hC96 : Chg [] w20 w90 := hE92
    refine sq (opk_store hA91 hB94 (r_store (vs := [.string (Bs x_86_Name), .string (Bs x_86_Value)]) (hA91.get rfl) (hA91.get rfl) rfl ti_33 hB94 rfl (ones_all [.string (Bs x_86_Name), .string (Bs x_86_Value)] rfl)) fun a98 w97 hS99 hB100 hA98 => ?_)
    have hB101 : Box w97 B_89 33 [.string (Bs x_86_Name), .string (Bs x_86_Value)] := hB100
    have hC102 := hC96.storeNew hN95 hS99
    have hN103 := hN95.up hS99.size
    refine sq_end ?_
    have hA104 := hA98.keep [(1, .string (Bs name_2)), (7, .pointer (some ⟨B_89, 0, none⟩)), (9, Sl.v t_1_Attrs), (10, .int .i64 (t_1_Attrs.n : Int)), (11, .int .i64 x_19)] ⟨rfl, rfl, rfl, rfl, rfl, trivial⟩
    refine then_normal ?_
    refine wp_seq ?_
    refine wp_region_lit ?_
    refine sq (opk_val hA104 rfl (r_fieldAddr (hA104.get rfl) Try.underlying33 rfl ti_9 (by decide)) fun a105 hA105 _ => ?_)
    refine sq (opk_val hA105 rfl (r_load1 Try.underlying9 rfl (hA105.get rfl) (hB101.cell 0 _ rfl)) fun a106 hA106 _ => ?_)
    refine sq (opk_val hA106 rfl (r_move (hA106.get rfl)) fun a107 hA107 _ => ?_)
    refine sq (opk_val hA107 rfl (r_seql (hA107.get rfl) (hA107.get rfl)) fun a108 hA108 _ => ?_)
    refine sq_end ?_
    have hA109 := hA108.keep [(1, .string (Bs name_2)), (7, .pointer (some ⟨B_89, 0, none⟩)), (9, Sl.v t_1_Attrs), (10, .int .i64 (t_1_Attrs.n : Int)), (11, .int .i64 x_19), (18, .bool (decide (x_86_Name = name_2)))] ⟨rfl, rfl, rfl, rfl, rfl, rfl, trivial⟩
    refine then_normal ?_
    refine wp_cond_split (hA109.get rfl) (fun hc => ?_) (fun hc => ?_)
    · have ht110 := ht88.1 (of_decide_eq_true hc)
      clear hc
      refine wp_seq ?_
      refine wp_region_lit ?_
      refine sq (opk_val hA109 rfl (r_fieldAddr (hA109.get rfl) Try.underlying33 rfl ti_9 (by decide)) fun a112 hA112 _ => ?_)
      refine sq (opk_val hA112 rfl (r_load1 Try.underlying9 rfl (hA112.get rfl) (hB101.cell 1 _ rfl)) fun a113 hA113 _ => ?_)
      refine sq (opk_val hA113 rfl (r_assign (hA113.get rfl)) fun a114 hA114 _ => ?_)
      refine sq (opk_val hA114 rfl (r_assign rfl) fun a115 hA115 _ => ?_)
      refine sq_end ?_
      have hA116 := hA115.keep [(4, .string (Bs x_86_Value)), (5, .bool true)] ⟨rfl, rfl, trivial⟩
      refine then_normal ?_
      refine wp_ret ?_
      refine block_ret ?_
      refine then_ret ?_
      refine then_ret ?_
      refine block_ret ?_
      refine then_ret ?_
      have ht117 := ht110 w97 B_89 hN103  hC102
      exact res_all (vs := [.string (Bs x_86_Value), .bool true]) rfl hA116 ⟨res_of_tmp hA116 rfl, res_of_tmp hA116 rfl, trivial⟩ ht117
    · have ht111 := ht88.2 (of_decide_eq_false hc)
      clear hc
      refine wp_skip ?_
      refine block_normal ?_
      refine then_normal ?_
      refine wp_region_lit ?_
      obtain ⟨hS119, ht120⟩ := ht111
      refine sq (opk_val hA109 rfl (r_addI (hA109.get rfl) rfl hS119) fun a118 hA118 _ => ?_)
      refine sq (opk_val hA118 rfl (r_move (hA118.get rfl)) fun a121 hA121 _ => ?_)
      refine sq_end ?_
      have hA122 := hA121.keep [(1, .string (Bs name_2)), (9, Sl.v t_1_Attrs), (10, .int .i64 (t_1_Attrs.n : Int)), (11, .int .i64 (x_19 + 1))] ⟨rfl, rfl, rfl, rfl, trivial⟩
      have ht123 := ht120 w97 B_89 hN103  hC102
      have hA124 := hA122.keep [(1, .string (Bs name_2)), (9, Sl.v t_1_Attrs), (10, .int .i64 (t_1_Attrs.n : Int)), (11, .int .i64 (x_19 + 1))] ⟨rfl, rfl, rfl, rfl, trivial⟩
      exact then_normal ⟨(x_19 + 1, w97), ⟨hA124, rfl, ht123.1⟩, ht123.2⟩
  · have ht79 := ht74.2 (of_decide_eq_false hc)
    clear hc
    refine wp_exit ?_
    refine then_exit ?_
    refine then_exit ?_
    refine block_hit ?_
    have hA125 := hA77.keep [] trivial
    refine then_normal ?_
    refine wp_seq ?_
    refine wp_region_lit ?_
    refine sq (opk_val hA125 rfl (r_assign rfl) fun a126 hA126 _ => ?_)
    refine sq (opk_val hA126 rfl (r_assign rfl) fun a127 hA127 _ => ?_)
    refine sq_end ?_
    have hA128 := hA127.keep [(4, .string (Bs ([] : Str))), (5, .bool false)] ⟨rfl, rfl, trivial⟩
    refine then_normal ?_
    refine wp_ret ?_
    exact res_all (vs := [.string (Bs ([] : Str)), .bool false]) rfl hA128 ⟨res_of_tmp hA128 rfl, res_of_tmp hA128 rfl, trivial⟩ ht79

/-- The condition of topiary/tree.Compare. -/
def tree_Compare.vc (a_1_Kind : Int) (a_1_Name : Str) (a_1_Text : Str) (a_1_Attrs : Sl) (a_1_Kids : Sl) (b_2_Kind : Int) (b_2_Name : Str) (b_2_Text : Str) (b_2_Attrs : Sl) (b_2_Kids : Sl) (R : Value → World → Prop) (w : World) : Prop :=
∀ (w24 : World) (B_3 : Nat) (B_11 : Nat), New w B_3 w24 → New w B_11 w24 → B_3 ≠ B_11 → Chg [] w w24 →
∃ (r_36 : Int), (∀ w' : World, Ext w24 w' → Calls Try.prog 41 #[.int .i64 a_1_Kind, .int .i64 b_2_Kind] w' (Ret fun v w'' => Ext w' w'' ∧ v = .int .i64 r_36)) ∧
∃ (r_43 : Int), (∀ w' : World, Ext w24 w' → Calls Try.prog 42 #[.string (Bs a_1_Name), .string (Bs b_2_Name)] w' (Ret fun v w'' => Ext w' w'' ∧ v = .int .i64 r_43)) ∧
∃ (r_50 : Int), (∀ w' : World, Ext w24 w' → Calls Try.prog 42 #[.string (Bs a_1_Text), .string (Bs b_2_Text)] w' (Ret fun v w'' => Ext w' w'' ∧ v = .int .i64 r_50)) ∧
∃ (r_64 : Int), (∀ B_56 : Nat, ∀ w' : World, Ext w24 w' → w24.heap.size ≤ B_56 → Box w' B_56 3 [.int .i64 r_36, .int .i64 r_43, .int .i64 r_50] → Calls Try.prog 40 #[Sl.v (Sl.mk (some ⟨B_56, 0, none⟩) 3 3)] w' (Ret fun v w'' => Ext w' w'' ∧ v = .int .i64 r_64)) ∧
∀ (w69 : World), Chg [] w24 w69 →
∃ (J_84 : Int → Int → World → Prop) (mu_85 : Int → Int → World → Nat),
J_84 r_64 0 w69 ∧
(∀ (x_81 : Int) (i_82 : Int) (w83 : World), J_84 x_81 i_82 w83 →
((((x_81 = 0) ∧ (i_82 < (a_1_Attrs.n : Int))) ∧ (i_82 < (b_2_Attrs.n : Int))) →
∀ (w226 : World), Chg [] w83 w226 →
∃ p_235 : Addr, (((0 : Int) ≤ i_82 ∧ i_82 < (a_1_Attrs.n : Int)) ∧ a_1_Attrs.a = some p_235) ∧
∃ (x_240 : Str), (w226.cell? ((p_235.add (i_82.toNat * 2)).add 0) = some (.string (Bs x_240))) ∧
∃ p_246 : Addr, (((0 : Int) ≤ i_82 ∧ i_82 < (b_2_Attrs.n : Int)) ∧ b_2_Attrs.a = some p_246) ∧
∃ (x_251 : Str), (w226.cell? ((p_246.add (i_82.toNat * 2)).add 0) = some (.string (Bs x_251))) ∧
∃ (r_256 : Int), (∀ w' : World, Ext w226 w' → Calls Try.prog 42 #[.string (Bs x_240), .string (Bs x_251)] w' (Ret fun v w'' => Ext w' w'' ∧ v = .int .i64 r_256)) ∧
∃ p_262 : Addr, (((0 : Int) ≤ i_82 ∧ i_82 < (a_1_Attrs.n : Int)) ∧ a_1_Attrs.a = some p_262) ∧
∃ (x_267 : Str), (w226.cell? ((p_262.add (i_82.toNat * 2)).add 1) = some (.string (Bs x_267))) ∧
∃ p_273 : Addr, (((0 : Int) ≤ i_82 ∧ i_82 < (b_2_Attrs.n : Int)) ∧ b_2_Attrs.a = some p_273) ∧
∃ (x_278 : Str), (w226.cell? ((p_273.add (i_82.toNat * 2)).add 1) = some (.string (Bs x_278))) ∧
∃ (r_283 : Int), (∀ w' : World, Ext w226 w' → Calls Try.prog 42 #[.string (Bs x_267), .string (Bs x_278)] w' (Ret fun v w'' => Ext w' w'' ∧ v = .int .i64 r_283)) ∧
∃ (r_296 : Int), (∀ B_288 : Nat, ∀ w' : World, Ext w226 w' → w226.heap.size ≤ B_288 → Box w' B_288 3 [.int .i64 r_256, .int .i64 r_283] → Calls Try.prog 40 #[Sl.v (Sl.mk (some ⟨B_288, 0, none⟩) 2 2)] w' (Ret fun v w'' => Ext w' w'' ∧ v = .int .i64 r_296)) ∧
(I64 (i_82 + 1)) ∧
∀ (w301 : World), Chg [] w226 w301 →
J_84 r_296 (i_82 + 1) w301 ∧ mu_85 r_296 (i_82 + 1) w301 < mu_85 x_81 i_82 w83) ∧
((((¬ (x_81 = 0)) ∨ (¬ (i_82 < (a_1_Attrs.n : Int)))) ∨ (¬ (i_82 < (b_2_Attrs.n : Int)))) →
CallK Try.prog 41 #[.int .i64 (a_1_Attrs.n : Int), .int .i64 (b_2_Attrs.n : Int)] w83 [B_3, B_11] (fun v w329 => ∃ (r_327 : Int), v = .int .i64 r_327 ∧
∀ (w338 : World) (B_337 : Nat), New w329 B_337 w338 → Chg [] w329 w338 →
∀ (_ : Box w338 B_337 3 [.int .i64 x_81, .int .i64 r_327]),
CallK Try.prog 40 #[Sl.v (Sl.mk (some ⟨B_337, 0, none⟩) 2 2)] w338 [B_3, B_11] (fun v w353 => ∃ (r_351 : Int), v = .int .i64 r_351 ∧
∃ (J_368 : Int → Int → World → Prop) (mu_369 : Int → Int → World → Nat),
J_368 r_351 0 w353 ∧
(∀ (x_365 : Int) (i_366 : Int) (w367 : World), J_368 x_365 i_366 w367 →
((((x_365 = 0) ∧ (i_366 < (a_1_Kids.n : Int))) ∧ (i_366 < (b_2_Kids.n : Int))) →
∀ (w467 : World), Chg [] w367 w467 →
∃ p_476 : Addr, (((0 : Int) ≤ i_366 ∧ i_366 < (a_1_Kids.n : Int)) ∧ a_1_Kids.a = some p_476) ∧
∃ (x_480_Kind : Int) (x_480_Name : Str) (x_480_Text : Str) (x_480_Attrs : Sl) (x_480_Kids : Sl), (Cells w467 (p_476.add (i_366.toNat * 5)) [.int .i64 x_480_Kind, .string (Bs x_480_Name), .string (Bs x_480_Text), Sl.v x_480_Attrs, Sl.v x_480_Kids]) ∧
∃ p_486 : Addr, (((0 : Int) ≤ i_366 ∧ i_366 < (b_2_Kids.n : Int)) ∧ b_2_Kids.a = some p_486) ∧
∃ (x_490_Kind : Int) (x_490_Name : Str) (x_490_Text : Str) (x_490_Attrs : Sl) (x_490_Kids : Sl), (Cells w467 (p_486.add (i_366.toNat * 5)) [.int .i64 x_490_Kind, .string (Bs x_490_Name), .string (Bs x_490_Text), Sl.v x_490_Attrs, Sl.v x_490_Kids]) ∧
∃ (r_495 : Int), (∀ w' : World, Ext w467 w' → Calls Try.prog 24 #[.agg #[.int .i64 x_480_Kind, .string (Bs x_480_Name), .string (Bs x_480_Text), Sl.v x_480_Attrs, Sl.v x_480_Kids], .agg #[.int .i64 x_490_Kind, .string (Bs x_490_Name), .string (Bs x_490_Text), Sl.v x_490_Attrs, Sl.v x_490_Kids]] w' (Ret fun v w'' => Ext w' w'' ∧ v = .int .i64 r_495)) ∧
(I64 (i_366 + 1)) ∧
∀ (w500 : World), Chg [] w467 w500 →
J_368 r_495 (i_366 + 1) w500 ∧ mu_369 r_495 (i_366 + 1) w500 < mu_369 x_365 i_366 w367) ∧
((((¬ (x_365 = 0)) ∨ (¬ (i_366 < (a_1_Kids.n : Int)))) ∨ (¬ (i_366 < (b_2_Kids.n : Int)))) →
CallK Try.prog 41 #[.int .i64 (a_1_Kids.n : Int), .int .i64 (b_2_Kids.n : Int)] w367 [B_3, B_11] (fun v w528 => ∃ (r_526 : Int), v = .int .i64 r_526 ∧
∀ (w537 : World) (B_536 : Nat), New w528 B_536 w537 → Chg [] w528 w537 →
∀ (_ : Box w537 B_536 3 [.int .i64 x_365, .int .i64 r_526]),
CallK Try.prog 40 #[Sl.v (Sl.mk (some ⟨B_536, 0, none⟩) 2 2)] w537 [B_3, B_11] (fun v w552 => ∃ (r_550 : Int), v = .int .i64 r_550 ∧
R (.int .i64 r_550) w552))))))))
set_option maxHeartbeats 1000000 in
set_option maxRecDepth 10000 in
theorem tree_Compare.ok (a_1_Kind : Int) (a_1_Name : Str) (a_1_Text : Str) (a_1_Attrs : Sl) (a_1_Kids : Sl) (b_2_Kind : Int) (b_2_Name : Str) (b_2_Text : Str) (b_2_Attrs : Sl) (b_2_Kids : Sl) {R : Value → World → Prop} {w : World} (ht0 : tree_Compare.vc a_1_Kind a_1_Name a_1_Text a_1_Attrs a_1_Kids b_2_Kind b_2_Name b_2_Text b_2_Attrs b_2_Kids R w) : Calls Try.prog 24 #[.agg #[.int .i64 a_1_Kind, .string (Bs a_1_Name), .string (Bs a_1_Text), Sl.v a_1_Attrs, Sl.v a_1_Kids], .agg #[.int .i64 b_2_Kind, .string (Bs b_2_Name), .string (Bs b_2_Text), Sl.v b_2_Attrs, Sl.v b_2_Kids]] w (Ret R) := by
  refine enter [.agg #[.int .i64 a_1_Kind, .string (Bs a_1_Name), .string (Bs a_1_Text), Sl.v a_1_Attrs, Sl.v a_1_Kids], .agg #[.int .i64 b_2_Kind, .string (Bs b_2_Name), .string (Bs b_2_Text), Sl.v b_2_Attrs, Sl.v b_2_Kids]] Try.func24 rfl Try.ntmps24 rfl ?_
  intro a0 hA0
  unfold tree_Compare.vc at ht0
  refine wp_seq ?_
  refine wp_region_lit ?_
  refine sq (opk_new (fun B => .pointer (some ⟨B, 0, none⟩)) hA0 rfl (r_box (cs := [.int .i64 a_1_Kind, .string (Bs a_1_Name), .string (Bs a_1_Text), Sl.v a_1_Attrs, Sl.v a_1_Kids]) (hA0.get rfl) rfl) fun a5 w4 B_3 hE6 hN7 hB8 hA5 _ => ?_)
  have hN9 : New w B_3 w4 := hN7
  have hC10 : Chg [] w w4 := hE6
  refine sq (opk_new (fun B => .pointer (some ⟨B, 0, none⟩)) hA5 rfl (r_box (cs := [.int .i64 b_2_Kind, .string (Bs b_2_Name), .string (Bs b_2_Text), Sl.v b_2_Attrs, Sl.v b_2_Kids]) (hA5.get rfl) rfl) fun a13 w12 B_11 hE14 hN15 hB16 hA13 _ => ?_)
  have hne17 : B_3 ≠ B_11 := Nat.ne_of_lt (Nat.lt_of_lt_of_le hB8.lt hN15.ge)
  have hN18 := New.of hC10 hN15
  have hB19 := hB8.ext hE14
  have hC20 := hC10.more hE14
  have hN21 := hN9.up hE14.size
  refine sq (opk_val hA13 rfl (r_assign rfl) fun a22 hA22 _ => ?_)
  refine sq_end ?_
  have hA23 := hA22.keep [(2, .pointer (some ⟨B_3, 0, none⟩)), (3, .pointer (some ⟨B_11, 0, none⟩))] ⟨rfl, rfl, trivial⟩
  refine then_normal ?_
  refine wp_seq ?_
  refine draw' (by kernel_rfl) fun w24 hE25 => ?_
  have hB26 := hB19.ext hE25
  have hB27 := hB16.ext hE25
  have hC28 := hC20.more hE25
  have hN29 := hN21.up hE25.size
  have hN30 := hN18.up hE25.size
  have ht31 := ht0 w24 B_3 B_11 hN29 hN30 hne17 hC28
  obtain ⟨r_36, hc37, ht38⟩ := ht31
  obtain ⟨r_43, hc44, ht45⟩ := ht38
  obtain ⟨r_50, hc51, ht52⟩ := ht45
  obtain ⟨r_64, hc65, ht66⟩ := ht52
  refine par (D := [[], [0], [], [2], [0, 1, 2, 3], [], [5], [], [7], [0, 1, 2, 3, 4, 5, 6, 7, 8], [], [10], [], [12], [0, 1, 2, 3, 4, 5, 6, 7, 8, 9, 10, 11, 12, 13], [0, 1, 2, 3, 4, 5, 6, 7, 8, 9, 10, 11, 12, 13, 14], [0, 1, 2, 3, 4, 5, 6, 7, 8, 9, 10, 11, 12, 13, 14, 15], [0, 1, 2, 3, 4, 5, 6, 7, 8, 9, 10, 11, 12, 13, 14, 15, 16]]) (S := [0, 1, 2, 3, 4, 5, 6, 7, 8, 9, 10, 11, 12, 13, 14, 15, 16, 17]) (F := []) (V := VL [(0, fun v _ => v = .pointer (some ⟨B_3, 0, none⟩)), (1, fun v _ => v = .int .i64 a_1_Kind), (2, fun v _ => v = .pointer (some ⟨B_11, 0, none⟩)), (3, fun v _ => v = .int .i64 b_2_Kind), (4, fun v _ => v = .int .i64 r_36), (5, fun v _ => v = .pointer (some ⟨B_3, 1, none⟩)), (6, fun v _ => v = .string (Bs a_1_Name)), (7, fun v _ => v = .pointer (some ⟨B_11, 1, none⟩)), (8, fun v _ => v = .string (Bs b_2_Name)), (9, fun v _ => v = .int .i64 r_43), (10, fun v _ => v = .pointer (some ⟨B_3, 2, none⟩)), (11, fun v _ => v = .string (Bs a_1_Text)), (12, fun v _ => v = .pointer (some ⟨B_11, 2, none⟩)), (13, fun v _ => v = .string (Bs b_2_Text)), (14, fun v _ => v = .int .i64 r_50), (15, fun v w' => ∃ B_56 : Nat, w24.heap.size ≤ B_56 ∧ Box w' B_56 3 [.int .i64 r_36, .int .i64 r_43, .int .i64 r_50] ∧ v = Sl.v (Sl.mk (some ⟨B_56, 0, none⟩) 3 3)), (16, fun v _ => v = .int .i64 r_64), (17, fun v _ => v = .int .i64 r_64)]) hA23 (by kernel_rfl) ⟨fun _ _ _ _ h => by first | exact h | (change _ = _ at h; change _ = _; exact h), fun _ _ _ _ h => by first | exact h | (change _ = _ at h; change _ = _; exact h), fun _ _ _ _ h => by first | exact h | (change _ = _ at h; change _ = _; exact h), fun _ _ _ _ h => by first | exact h | (change _ = _ at h; change _ = _; exact h), fun _ _ _ _ h => by first | exact h | (change _ = _ at h; change _ = _; exact h), fun _ _ _ _ h => by first | exact h | (change _ = _ at h; change _ = _; exact h), fun _ _ _ _ h => by first | exact h | (change _ = _ at h; change _ = _; exact h), fun _ _ _ _ h => by first | exact h | (change _ = _ at h; change _ = _; exact h), fun _ _ _ _ h => by first | exact h | (change _ = _ at h; change _ = _; exact h), fun _ _ _ _ h => by first | exact h | (change _ = _ at h; change _ = _; exact h), fun _ _ _ _ h => by first | exact h | (change _ = _ at h; change _ = _; exact h), fun _ _ _ _ h => by first | exact h | (change _ = _ at h; change _ = _; exact h), fun _ _ _ _ h => by first | exact h | (change _ = _ at h; change _ = _; exact h), fun _ _ _ _ h => by first | exact h | (change _ = _ at h; change _ = _; exact h), fun _ _ _ _ h => by first | exact h | (change _ = _ at h; change _ = _; exact h), fun _ _ _ hE ⟨B_56, h0_, h1_, e⟩ => ⟨B_56, h0_, (h1_.ext hE), e⟩, fun _ _ _ _ h => by first | exact h | (change _ = _ at h; change _ = _; exact h), fun _ _ _ _ h => by first | exact h | (change _ = _ at h; change _ = _; exact h), trivial⟩ ⟨?_, ?_, ?_, ?_, ?_, ?_, ?_, ?_, ?_, ?_, ?_, ?_, ?_, ?_, ?_, ?_, ?_, ?_, trivial⟩ ?_
  · intro a w hT
    have hAp := hT.ag hA23 [(2, .pointer (some ⟨B_3, 0, none⟩))] ⟨rfl, trivial⟩ (by kernel_rfl)
    exact opk_val hAp rfl (r_fieldAddr (hAp.get rfl) Try.underlying26 rfl ti_3 (by decide)) fun _ _ e => ⟨_, e, Chg.refl _ _, fun _ => Eq.refl _⟩
  · intro a w hT
    have hAp := hT.ag hA23 [] trivial (by kernel_rfl)
    have e32 : a.tmps.getD 8 undef = .pointer (some ⟨B_3, 0, none⟩) := hT.vals 0 rfl 8 rfl
    have hAp := hAp.add e32
    exact opk_val hAp rfl (r_load1 Try.underlying3 rfl (hAp.get rfl) ((hB26.ext hT.chg).cell 0 _ rfl)) fun _ _ e => ⟨_, e, Chg.refl _ _, fun _ => Eq.refl _⟩
  · intro a w hT
    have hAp := hT.ag hA23 [(3, .pointer (some ⟨B_11, 0, none⟩))] ⟨rfl, trivial⟩ (by kernel_rfl)
    exact opk_val hAp rfl (r_fieldAddr (hAp.get rfl) Try.underlying26 rfl ti_3 (by decide)) fun _ _ e => ⟨_, e, Chg.refl _ _, fun _ => Eq.refl _⟩
  · intro a w hT
    have hAp := hT.ag hA23 [] trivial (by kernel_rfl)
    have e33 : a.tmps.getD 10 undef = .pointer (some ⟨B_11, 0, none⟩) := hT.vals 2 rfl 10 rfl
    have hAp := hAp.add e33
    exact opk_val hAp rfl (r_load1 Try.underlying3 rfl (hAp.get rfl) ((hB27.ext hT.chg).cell 0 _ rfl)) fun _ _ e => ⟨_, e, Chg.refl _ _, fun _ => Eq.refl _⟩
  · intro a w hT
    have hAp := hT.ag hA23 [] trivial (by kernel_rfl)
    have e34 : a.tmps.getD 9 undef = .int .i64 a_1_Kind := hT.vals 1 rfl 9 rfl
    have hAp := hAp.add e34
    have e35 : a.tmps.getD 11 undef = .int .i64 b_2_Kind := hT.vals 3 rfl 11 rfl
    have hAp := hAp.add e35
    exact opk_callX hAp rfl (r_call (args := #[.int .i64 a_1_Kind, .int .i64 b_2_Kind]) Try.func41 (by decide) rfl (map_arr (ml_cons (hAp.get rfl) (ml_cons (hAp.get rfl) ml_nil))) rfl) (hc37 w hT.chg) fun _ _ _ _ e hR => ⟨_, e, hR.1, fun _ => hR.2⟩
  · intro a w hT
    have hAp := hT.ag hA23 [(2, .pointer (some ⟨B_3, 0, none⟩))] ⟨rfl, trivial⟩ (by kernel_rfl)
    exact opk_val hAp rfl (r_fieldAddr (hAp.get rfl) Try.underlying26 rfl ti_9 (by decide)) fun _ _ e => ⟨_, e, Chg.refl _ _, fun _ => Eq.refl _⟩
  · intro a w hT
    have hAp := hT.ag hA23 [] trivial (by kernel_rfl)
    have e39 : a.tmps.getD 13 undef = .pointer (some ⟨B_3, 1, none⟩) := hT.vals 5 rfl 13 rfl
    have hAp := hAp.add e39
    exact opk_val hAp rfl (r_load1 Try.underlying9 rfl (hAp.get rfl) ((hB26.ext hT.chg).cell 1 _ rfl)) fun _ _ e => ⟨_, e, Chg.refl _ _, fun _ => Eq.refl _⟩
  · intro a w hT
    have hAp := hT.ag hA23 [(3, .pointer (some ⟨B_11, 0, none⟩))] ⟨rfl, trivial⟩ (by kernel_rfl)
    exact opk_val hAp rfl (r_fieldAddr (hAp.get rfl) Try.underlying26 rfl ti_9 (by decide)) fun _ _ e => ⟨_, e, Chg.refl _ _, fun _ => Eq.refl _⟩
  · intro a w hT
    have hAp := hT.ag hA23 [] trivial (by kernel_rfl)
    have e40 : a.tmps.getD 15 undef = .pointer (some ⟨B_11, 1, none⟩) := hT.vals 7 rfl 15 rfl
    have hAp := hAp.add e40
    exact opk_val hAp rfl (r_load1 Try.underlying9 rfl (hAp.get rfl) ((hB27.ext hT.chg).cell 1 _ rfl)) fun _ _ e => ⟨_, e, Chg.refl _ _, fun _ => Eq.refl _⟩
  · intro a w hT
    have hAp := hT.ag hA23 [] trivial (by kernel_rfl)
    have e41 : a.tmps.getD 14 undef = .string (Bs a_1_Name) := hT.vals 6 rfl 14 rfl
    have hAp := hAp.add e41
    have e42 : a.tmps.getD 16 undef = .string (Bs b_2_Name) := hT.vals 8 rfl 16 rfl
    have hAp := hAp.add e42
    exact opk_callX hAp rfl (r_call (args := #[.string (Bs a_1_Name), .string (Bs b_2_Name)]) Try.func42 (by decide) rfl (map_arr (ml_cons (hAp.get rfl) (ml_cons (hAp.get rfl) ml_nil))) rfl) (hc44 w hT.chg) fun _ _ _ _ e hR => ⟨_, e, hR.1, fun _ => hR.2⟩
  · intro a w hT
    have hAp := hT.ag hA23 [(2, .pointer (some ⟨B_3, 0, none⟩))] ⟨rfl, trivial⟩ (by kernel_rfl)
    exact opk_val hAp rfl (r_fieldAddr (hAp.get rfl) Try.underlying26 rfl ti_9 (by decide)) fun _ _ e => ⟨_, e, Chg.refl _ _, fun _ => Eq.refl _⟩
  · intro a w hT
    have hAp := hT.ag hA23 [] trivial (by kernel_rfl)
    have e46 : a.tmps.getD 18 undef = .pointer (some ⟨B_3, 2, none⟩) := hT.vals 10 rfl 18 rfl
    have hAp := hAp.add e46
    exact opk_val hAp rfl (r_load1 Try.underlying9 rfl (hAp.get rfl) ((hB26.ext hT.chg).cell 2 _ rfl)) fun _ _ e => ⟨_, e, Chg.refl _ _, fun _ => Eq.refl _⟩
  · intro a w hT
    have hAp := hT.ag hA23 [(3, .pointer (some ⟨B_11, 0, none⟩))] ⟨rfl, trivial⟩ (by kernel_rfl)
    exact opk_val hAp rfl (r_fieldAddr (hAp.get rfl) Try.underlying26 rfl ti_9 (by decide)) fun _ _ e => ⟨_, e, Chg.refl _ _, fun _ => Eq.refl _⟩
  · intro a w hT
    have hAp := hT.ag hA23 [] trivial (by kernel_rfl)
    have e47 : a.tmps.getD 20 undef = .pointer (some ⟨B_11, 2, none⟩) := hT.vals 12 rfl 20 rfl
    have hAp := hAp.add e47
    exact opk_val hAp rfl (r_load1 Try.underlying9 rfl (hAp.get rfl) ((hB27.ext hT.chg).cell 2 _ rfl)) fun _ _ e => ⟨_, e, Chg.refl _ _, fun _ => Eq.refl _⟩
  · intro a w hT
    have hAp := hT.ag hA23 [] trivial (by kernel_rfl)
    have e48 : a.tmps.getD 19 undef = .string (Bs a_1_Text) := hT.vals 11 rfl 19 rfl
    have hAp := hAp.add e48
    have e49 : a.tmps.getD 21 undef = .string (Bs b_2_Text) := hT.vals 13 rfl 21 rfl
    have hAp := hAp.add e49
    exact opk_callX hAp rfl (r_call (args := #[.string (Bs a_1_Text), .string (Bs b_2_Text)]) Try.func42 (by decide) rfl (map_arr (ml_cons (hAp.get rfl) (ml_cons (hAp.get rfl) ml_nil))) rfl) (hc51 w hT.chg) fun _ _ _ _ e hR => ⟨_, e, hR.1, fun _ => hR.2⟩
  · intro a w hT
    have hAp := hT.ag hA23 [] trivial (by kernel_rfl)
    have e53 : a.tmps.getD 12 undef = .int .i64 r_36 := hT.vals 4 rfl 12 rfl
    have hAp := hAp.add e53
    have e54 : a.tmps.getD 17 undef = .int .i64 r_43 := hT.vals 9 rfl 17 rfl
    have hAp := hAp.add e54
    have e55 : a.tmps.getD 22 undef = .int .i64 r_50 := hT.vals 14 rfl 22 rfl
    have hAp := hAp.add e55
    exact opk_new (fun B => .slice (some ⟨B, 0, none⟩) 3 3) hAp rfl (r_buildSlice (vs := #[(0, .int .i64 r_36), (1, .int .i64 r_43), (2, .int .i64 r_50)]) (cs := [.int .i64 r_36, .int .i64 r_43, .int .i64 r_50]) (map_arr2 (ml2_cons (hAp.get rfl) (ml2_cons (hAp.get rfl) (ml2_cons (hAp.get rfl) (ml2_nil))))) Try.underlying22 ti_3 rfl rfl (by kernel_rfl)) fun _ w57 B_56 hE58 hN59 hB60 _ e => ⟨_, e, hE58, fun _ => ⟨B_56, Nat.le_trans hT.chg.size hN59.ge, hB60, rfl⟩⟩
  · intro a w hT
    have hAp := hT.ag hA23 [] trivial (by kernel_rfl)
    obtain ⟨B_56, hf62, hf63, e61⟩ := hT.vals 15 rfl 23 rfl
    have hAp := hAp.add e61
    exact opk_callX hAp rfl (r_call (args := #[Sl.v (Sl.mk (some ⟨B_56, 0, none⟩) 3 3)]) Try.func40 (by decide) rfl (map_arr (ml_cons (hAp.get rfl) ml_nil)) rfl) (hc65 B_56 w hT.chg hf62 hf63) fun _ _ _ _ e hR => ⟨_, e, hR.1, fun _ => hR.2⟩
  · intro a w hT
    have hAp := hT.ag hA23 [] trivial (by kernel_rfl)
    have e67 : a.tmps.getD 24 undef = .int .i64 r_64 := hT.vals 16 rfl 24 rfl
    have hAp := hAp.add e67
    exact opk_val hAp rfl (r_assign (hAp.get rfl)) fun _ _ e => ⟨_, e, Chg.refl _ _, fun _ => Eq.refl _⟩
  · intro a68 w69 hE70 hag71 hv72
    have hA68 := hag71 [(2, .pointer (some ⟨B_3, 0, none⟩)), (3, .pointer (some ⟨B_11, 0, none⟩))] ⟨rfl, rfl, trivial⟩ (by kernel_rfl)
    have e73 : a68.tmps.getD 5 undef = .int .i64 r_64 := hv72 17 rfl 5 rfl
    have hA74 := hA68.add e73
    have hB75 := hB26.ext hE70
    have hB76 := hB27.ext hE70
    have hC77 : Chg [] w24 w69 := hE70
    refine PR_end (by kernel_rfl) ?_
    have hA78 := hA74.keep [(2, .pointer (some ⟨B_3, 0, none⟩)), (3, .pointer (some ⟨B_11, 0, none⟩)), (5, .int .i64 r_64)] ⟨rfl, rfl, rfl, trivial⟩
    refine then_normal ?_
    refine wp_seq ?_
    refine wp_seq ?_
    refine wp_region_lit ?_
    refine sq (opk_val hA78 rfl (r_assign rfl) fun a79 hA79 _ => ?_)
    refine sq_end ?_
    have hA80 := hA79.keep [(2, .pointer (some ⟨B_3, 0, none⟩)), (3, .pointer (some ⟨B_11, 0, none⟩)), (5, .int .i64 r_64), (6, .int .i64 0)] ⟨rfl, rfl, rfl, rfl, trivial⟩
    refine then_normal ?_
    refine wp_block ?_
    have ht199 := ht66 w69    hC77
    obtain ⟨J_84, mu_85, h0204, ht203⟩ := ht199
    refine wp_loop_st (σ := Int × Int × World) (fun s a w => Ag 120 a [(2, .pointer (some ⟨B_3, 0, none⟩)), (3, .pointer (some ⟨B_11, 0, none⟩)), (5, .int .i64 s.1), (6, .int .i64 s.2.1)] ∧ Box w B_3 26 [.int .i64 a_1_Kind, .string (Bs a_1_Name), .string (Bs a_1_Text), Sl.v a_1_Attrs, Sl.v a_1_Kids] ∧ Box w B_11 26 [.int .i64 b_2_Kind, .string (Bs b_2_Name), .string (Bs b_2_Text), Sl.v b_2_Attrs, Sl.v b_2_Kids] ∧ w = s.2.2 ∧ J_84 s.1 s.2.1 s.2.2) (fun s => mu_85 s.1 s.2.1 s.2.2) (r_64, 0, w69) ⟨hA80.keep [(2, .pointer (some ⟨B_3, 0, none⟩)), (3, .pointer (some ⟨B_11, 0, none⟩)), (5, .int .i64 r_64), (6, .int .i64 0)] ⟨rfl, rfl, rfl, rfl, trivial⟩, hB75, hB76, rfl, h0204⟩ ?_
    rintro ⟨x_81, i_82, w83⟩ a200 w_ ⟨hA200, hB201, hB202, hw_, hJ206⟩
    have hw_ : w83 = w_ := hw_.symm
    subst hw_
    have ht205 := ht203 x_81 i_82 _ hJ206
    refine wp_seq ?_
    refine wp_seq ?_
    refine wp_region_lit ?_
    refine sq (opk_val hA200 rfl (r_move (hA200.get rfl)) fun a207 hA207 _ => ?_)
    refine sq (opk_val hA207 rfl (r_eql (hA207.get rfl) rfl) fun a208 hA208 _ => ?_)
    refine sq (opk_val hA208 rfl (r_move (hA208.get rfl)) fun a209 hA209 _ => ?_)
    refine sq (opk_gval hA209 rfl rfl (g := true) (e := (decide (x_81 = 0))) rfl (fun hg => r_move (hA209.get rfl)) fun a210 hA210 _ => ?_)
    refine sq (opk_gval hA210 rfl rfl (g := true) (e := (decide (x_81 = 0))) rfl (fun hg => r_fieldAddr (hA210.get rfl) Try.underlying26 rfl ti_23 (by decide)) fun a211 hA211 _ => ?_)
    refine sq (opk_gval hA211 rfl rfl (g := true) (e := (decide (x_81 = 0))) rfl (fun hg => r_load1 Try.underlying23 rfl (cv_get (hA211.get rfl) hg) (hB201.cell 3 _ rfl)) fun a212 hA212 _ => ?_)
    refine sq (opk_gval hA212 rfl rfl (g := true) (e := (decide (x_81 = 0))) rfl (fun hg => r_len (cv_get (hA212.get rfl) hg) Try.underlying23) fun a213 hA213 _ => ?_)
    refine sq (opk_gval hA213 rfl rfl (g := true) (e := (decide (x_81 = 0))) rfl (fun hg => r_lss (cv_get (hA213.get rfl) hg) (cv_get (hA213.get rfl) hg)) fun a214 hA214 _ => ?_)
    refine sq (opk_val hA214 rfl (r_pick_and (g := (true && ((decide (x_81 = 0)) == true))) (hA214.get rfl) (hA214.get rfl) (fun he => g_mkt rfl he)) fun a215 hA215 _ => ?_)
    refine sq (opk_val hA215 rfl (r_move (hA215.get rfl)) fun a216 hA216 _ => ?_)
    refine sq (opk_gval hA216 rfl rfl (g := true) (e := ((decide (x_81 = 0)) && (decide (i_82 < (a_1_Attrs.n : Int))))) rfl (fun hg => r_move (hA216.get rfl)) fun a217 hA217 _ => ?_)
    refine sq (opk_gval hA217 rfl rfl (g := true) (e := ((decide (x_81 = 0)) && (decide (i_82 < (a_1_Attrs.n : Int))))) rfl (fun hg => r_fieldAddr (hA217.get rfl) Try.underlying26 rfl ti_23 (by decide)) fun a218 hA218 _ => ?_)
    refine sq (opk_gval hA218 rfl rfl (g := true) (e := ((decide (x_81 = 0)) && (decide (i_82 < (a_1_Attrs.n : Int))))) rfl (fun hg => r_load1 Try.underlying23 rfl (cv_get (hA218.get rfl) hg) (hB202.cell 3 _ rfl)) fun a219 hA219 _ => ?_)
    refine sq (opk_gval hA219 rfl rfl (g := true) (e := ((decide (x_81 = 0)) && (decide (i_82 < (a_1_Attrs.n : Int))))) rfl (fun hg => r_len (cv_get (hA219.get rfl) hg) Try.underlying23) fun a220 hA220 _ => ?_)
    refine sq (opk_gval hA220 rfl rfl (g := true) (e := ((decide (x_81 = 0)) && (decide (i_82 < (a_1_Attrs.n : Int))))) rfl (fun hg => r_lss (cv_get (hA220.get rfl) hg) (cv_get (hA220.get rfl) hg)) fun a221 hA221 _ => ?_)
    refine sq (opk_val hA221 rfl (r_pick_and (g := (true && (((decide (x_81 = 0)) && (decide (i_82 < (a_1_Attrs.n : Int)))) == true))) (hA221.get rfl) (hA221.get rfl) (fun he => g_mkt rfl he)) fun a222 hA222 _ => ?_)
    refine sq_end ?_
    have hA223 := hA222.keep [(2, .pointer (some ⟨B_3, 0, none⟩)), (3, .pointer (some ⟨B_11, 0, none⟩)), (5, .int .i64 x_81), (6, .int .i64 i_82), (40, .bool (((decide (x_81 = 0)) && (decide (i_82 < (a_1_Attrs.n : Int)))) && (decide (i_82 < (b_2_Attrs.n : Int)))))] ⟨rfl, rfl, rfl, rfl, rfl, trivial⟩
    refine then_normal ?_
    refine wp_cond_split (hA223.get rfl) (fun hc => ?_) (fun hc => ?_)
    · have ht224 := ht205.1 ⟨⟨(of_decide_eq_true (b_and_t (b_and_t hc).1).1), (of_decide_eq_true (b_and_t (b_and_t hc).1).2)⟩, (of_decide_eq_true (b_and_t hc).2)⟩
      clear hc
      refine wp_skip ?_
      refine then_normal ?_
      refine wp_seq ?_
      refine wp_block ?_
      refine draw' (by kernel_rfl) fun w226 hE227 => ?_
      have hB228 := hB201.ext hE227
      have hB229 := hB202.ext hE227
      have hC230 : Chg [] w83 w226 := hE227
      have ht231 := ht224 w226    hC230
      obtain ⟨p_235, hp236, ht237⟩ := ht231
      obtain ⟨x_240, hx241, ht242⟩ := ht237
      obtain ⟨p_246, hp247, ht248⟩ := ht242
      obtain ⟨x_251, hx252, ht253⟩ := ht248
      obtain ⟨r_256, hc257, ht258⟩ := ht253
      obtain ⟨p_262, hp263, ht264⟩ := ht258
      obtain ⟨x_267, hx268, ht269⟩ := ht264
      obtain ⟨p_273, hp274, ht275⟩ := ht269
      obtain ⟨x_278, hx279, ht280⟩ := ht275
      obtain ⟨r_283, hc284, ht285⟩ := ht280
      obtain ⟨r_296, hc297, ht298⟩ := ht285
      refine par (D := [[], [0], [], [0, 1, 2], [0, 1, 2, 3], [0, 1, 2, 3, 4], [], [6], [], [6, 7, 8], [6, 7, 8, 9], [6, 7, 8, 9, 10], [0, 1, 2, 3, 4, 5, 6, 7, 8, 9, 10, 11], [], [13], [], [13, 14, 15], [13, 14, 15, 16], [13, 14, 15, 16, 17], [], [19], [], [19, 20, 21], [19, 20, 21, 22], [19, 20, 21, 22, 23], [0, 1, 2, 3, 4, 5, 6, 7, 8, 9, 10, 11, 12, 13, 14, 15, 16, 17, 18, 19, 20, 21, 22, 23, 24], [0, 1, 2, 3, 4, 5, 6, 7, 8, 9, 10, 11, 12, 13, 14, 15, 16, 17, 18, 19, 20, 21, 22, 23, 24, 25], [0, 1, 2, 3, 4, 5, 6, 7, 8, 9, 10, 11, 12, 13, 14, 15, 16, 17, 18, 19, 20, 21, 22, 23, 24, 25, 26], [0, 1, 2, 3, 4, 5, 6, 7, 8, 9, 10, 11, 12, 13, 14, 15, 16, 17, 18, 19, 20, 21, 22, 23, 24, 25, 26, 27]]) (S := [0, 1, 2, 3, 4, 5, 6, 7, 8, 9, 10, 11, 12, 13, 14, 15, 16, 17, 18, 19, 20, 21, 22, 23, 24, 25, 26, 27, 28]) (F := []) (V := VL [(0, fun v _ => v = .pointer (some ⟨B_3, 3, none⟩)), (1, fun v _ => v = Sl.v a_1_Attrs), (2, fun v _ => v = .int .i64 i_82), (3, fun v _ => v = .pointer (some (p_235.add (i_82.toNat * 2)))), (4, fun v _ => v = .pointer (some ((p_235.add (i_82.toNat * 2)).add 0))), (5, fun v _ => v = .string (Bs x_240)), (6, fun v _ => v = .pointer (some ⟨B_11, 3, none⟩)), (7, fun v _ => v = Sl.v b_2_Attrs), (8, fun v _ => v = .int .i64 i_82), (9, fun v _ => v = .pointer (some (p_246.add (i_82.toNat * 2)))), (10, fun v _ => v = .pointer (some ((p_246.add (i_82.toNat * 2)).add 0))), (11, fun v _ => v = .string (Bs x_251)), (12, fun v _ => v = .int .i64 r_256), (13, fun v _ => v = .pointer (some ⟨B_3, 3, none⟩)), (14, fun v _ => v = Sl.v a_1_Attrs), (15, fun v _ => v = .int .i64 i_82), (16, fun v _ => v = .pointer (some (p_262.add (i_82.toNat * 2)))), (17, fun v _ => v = .pointer (some ((p_262.add (i_82.toNat * 2)).add 1))), (18, fun v _ => v = .string (Bs x_267)), (19, fun v _ => v = .pointer (some ⟨B_11, 3, none⟩)), (20, fun v _ => v = Sl.v b_2_Attrs), (21, fun v _ => v = .int .i64 i_82), (22, fun v _ => v = .pointer (some (p_273.add (i_82.toNat * 2)))), (23, fun v _ => v = .pointer (some ((p_273.add (i_82.toNat * 2)).add 1))), (24, fun v _ => v = .string (Bs x_278)), (25, fun v _ => v = .int .i64 r_283), (26, fun v w' => ∃ B_288 : Nat, w226.heap.size ≤ B_288 ∧ Box w' B_288 3 [.int .i64 r_256, .int .i64 r_283] ∧ v = Sl.v (Sl.mk (some ⟨B_288, 0, none⟩) 2 2)), (27, fun v _ => v = .int .i64 r_296), (28, fun v _ => v = .int .i64 r_296)]) hA223 (by kernel_rfl) ⟨fun _ _ _ _ h => by first | exact h | (change _ = _ at h; change _ = _; exact h), fun _ _ _ _ h => by first | exact h | (change _ = _ at h; change _ = _; exact h), fun _ _ _ _ h => by first | exact h | (change _ = _ at h; change _ = _; exact h), fun _ _ _ _ h => by first | exact h | (change _ = _ at h; change _ = _; exact h), fun _ _ _ _ h => by first | exact h | (change _ = _ at h; change _ = _; exact h), fun _ _ _ _ h => by first | exact h | (change _ = _ at h; change _ = _; exact h), fun _ _ _ _ h => by first | exact h | (change _ = _ at h; change _ = _; exact h), fun _ _ _ _ h => by first | exact h | (change _ = _ at h; change _ = _; exact h), fun _ _ _ _ h => by first | exact h | (change _ = _ at h; change _ = _; exact h), fun _ _ _ _ h => by first | exact h | (change _ = _ at h; change _ = _; exact h), fun _ _ _ _ h => by first | exact h | (change _ = _ at h; change _ = _; exact h), fun _ _ _ _ h => by first | exact h | (change _ = _ at h; change _ = _; exact h), fun _ _ _ _ h => by first | exact h | (change _ = _ at h; change _ = _; exact h), fun _ _ _ _ h => by first | exact h | (change _ = _ at h; change _ = _; exact h), fun _ _ _ _ h => by first | exact h | (change _ = _ at h; change _ = _; exact h), fun _ _ _ _ h => by first | exact h | (change _ = _ at h; change _ = _; exact h), fun _ _ _ _ h => by first | exact h | (change _ = _ at h; change _ = _; exact h), fun _ _ _ _ h => by first | exact h | (change _ = _ at h; change _ = _; exact h), fun _ _ _ _ h => by first | exact h | (change _ = _ at h; change _ = _; exact h), fun _ _ _ _ h => by first | exact h | (change _ = _ at h; change _ = _; exact h), fun _ _ _ _ h => by first | exact h | (change _ = _ at h; change _ = _; exact h), fun _ _ _ _ h => by first | exact h | (change _ = _ at h; change _ = _; exact h), fun _ _ _ _ h => by first | exact h | (change _ = _ at h; change _ = _; exact h), fun _ _ _ _ h => by first | exact h | (change _ = _ at h; change _ = _; exact h), fun _ _ _ _ h => by first | exact h | (change _ = _ at h; change _ = _; exact h), fun _ _ _ _ h => by first | exact h | (change _ = _ at h; change _ = _; exact h), fun _ _ _ hE ⟨B_288, h0_, h1_, e⟩ => ⟨B_288, h0_, (h1_.ext hE), e⟩, fun _ _ _ _ h => by first | exact h | (change _ = _ at h; change _ = _; exact h), fun _ _ _ _ h => by first | exact h | (change _ = _ at h; change _ = _; exact h), trivial⟩ ⟨?_, ?_, ?_, ?_, ?_, ?_, ?_, ?_, ?_, ?_, ?_, ?_, ?_, ?_, ?_, ?_, ?_, ?_, ?_, ?_, ?_, ?_, ?_, ?_, ?_, ?_, ?_, ?_, ?_, trivial⟩ ?_
      · intro a w hT
        have hAp := hT.ag hA223 [(2, .pointer (some ⟨B_3, 0, none⟩))] ⟨rfl, trivial⟩ (by kernel_rfl)
        exact opk_val hAp rfl (r_fieldAddr (hAp.get rfl) Try.underlying26 rfl ti_23 (by decide)) fun _ _ e => ⟨_, e, Chg.refl _ _, fun _ => Eq.refl _⟩
      · intro a w hT
        have hAp := hT.ag hA223 [] trivial (by kernel_rfl)
        have e232 : a.tmps.getD 43 undef = .pointer (some ⟨B_3, 3, none⟩) := hT.vals 0 rfl 43 rfl
        have hAp := hAp.add e232
        exact opk_val hAp rfl (r_load1 Try.underlying23 rfl (hAp.get rfl) ((hB228.ext hT.chg).cell 3 _ rfl)) fun _ _ e => ⟨_, e, Chg.refl _ _, fun _ => Eq.refl _⟩
      · intro a w hT
        have hAp := hT.ag hA223 [(6, .int .i64 i_82)] ⟨rfl, trivial⟩ (by kernel_rfl)
        exact opk_val hAp rfl (r_move (hAp.get rfl)) fun _ _ e => ⟨_, e, Chg.refl _ _, fun _ => Eq.refl _⟩
      · intro a w hT
        have hAp := hT.ag hA223 [] trivial (by kernel_rfl)
        have e233 : a.tmps.getD 44 undef = Sl.v a_1_Attrs := hT.vals 1 rfl 44 rfl
        have hAp := hAp.add e233
        have e234 : a.tmps.getD 45 undef = .int .i64 i_82 := hT.vals 2 rfl 45 rfl
        have hAp := hAp.add e234
        exact opk_val hAp rfl (r_indexAddr (hAp.get rfl) (hAp.get rfl) Try.underlying23 ti_33 hp236.1 hp236.2) fun _ _ e => ⟨_, e, Chg.refl _ _, fun _ => Eq.refl _⟩
      · intro a w hT
        have hAp := hT.ag hA223 [] trivial (by kernel_rfl)
        have e238 : a.tmps.getD 46 undef = .pointer (some (p_235.add (i_82.toNat * 2))) := hT.vals 3 rfl 46 rfl
        have hAp := hAp.add e238
        exact opk_val hAp rfl (r_fieldAddr (hAp.get rfl) Try.underlying33 rfl ti_9 (by decide)) fun _ _ e => ⟨_, e, Chg.refl _ _, fun _ => Eq.refl _⟩
      · intro a w hT
        have hAp := hT.ag hA223 [] trivial (by kernel_rfl)
        have e239 : a.tmps.getD 47 undef = .pointer (some ((p_235.add (i_82.toNat * 2)).add 0)) := hT.vals 4 rfl 47 rfl
        have hAp := hAp.add e239
        exact opk_val hAp rfl (r_load1 Try.underlying9 rfl (hAp.get rfl) (Ext.cell hT.chg hx241)) fun _ _ e => ⟨_, e, Chg.refl _ _, fun _ => Eq.refl _⟩
      · intro a w hT
        have hAp := hT.ag hA223 [(3, .pointer (some ⟨B_11, 0, none⟩))] ⟨rfl, trivial⟩ (by kernel_rfl)
        exact opk_val hAp rfl (r_fieldAddr (hAp.get rfl) Try.underlying26 rfl ti_23 (by decide)) fun _ _ e => ⟨_, e, Chg.refl _ _, fun _ => Eq.refl _⟩
      · intro a w hT
        have hAp := hT.ag hA223 [] trivial (by kernel_rfl)
        have e243 : a.tmps.getD 49 undef = .pointer (some ⟨B_11, 3, none⟩) := hT.vals 6 rfl 49 rfl
        have hAp := hAp.add e243
        exact opk_val hAp rfl (r_load1 Try.underlying23 rfl (hAp.get rfl) ((hB229.ext hT.chg).cell 3 _ rfl)) fun _ _ e => ⟨_, e, Chg.refl _ _, fun _ => Eq.refl _⟩
      · intro a w hT
        have hAp := hT.ag hA223 [(6, .int .i64 i_82)] ⟨rfl, trivial⟩ (by kernel_rfl)
        exact opk_val hAp rfl (r_move (hAp.get rfl)) fun _ _ e => ⟨_, e, Chg.refl _ _, fun _ => Eq.refl _⟩
      · intro a w hT
        have hAp := hT.ag hA223 [] trivial (by kernel_rfl)
        have e244 : a.tmps.getD 50 undef = Sl.v b_2_Attrs := hT.vals 7 rfl 50 rfl
        have hAp := hAp.add e244
        have e245 : a.tmps.getD 51 undef = .int .i64 i_82 := hT.vals 8 rfl 51 rfl
        have hAp := hAp.add e245
        exact opk_val hAp rfl (r_indexAddr (hAp.get rfl) (hAp.get rfl) Try.underlying23 ti_33 hp247.1 hp247.2) fun _ _ e => ⟨_, e, Chg.refl _ _, fun _ => Eq.refl _⟩
      · intro a w hT
        have hAp := hT.ag hA223 [] trivial (by kernel_rfl)
        have e249 : a.tmps.getD 52 undef = .pointer (some (p_246.add (i_82.toNat * 2))) := hT.vals 9 rfl 52 rfl
        have hAp := hAp.add e249
        exact opk_val hAp rfl (r_fieldAddr (hAp.get rfl) Try.underlying33 rfl ti_9 (by decide)) fun _ _ e => ⟨_, e, Chg.refl _ _, fun _ => Eq.refl _⟩
      · intro a w hT
        have hAp := hT.ag hA223 [] trivial (by kernel_rfl)
        have e250 : a.tmps.getD 53 undef = .pointer (some ((p_246.add (i_82.toNat * 2)).add 0)) := hT.vals 10 rfl 53 rfl
        have hAp := hAp.add e250
        exact opk_val hAp rfl (r_load1 Try.underlying9 rfl (hAp.get rfl) (Ext.cell hT.chg hx252)) fun _ _ e => ⟨_, e, Chg.refl _ _, fun _ => Eq.refl _⟩
      · intro a w hT
        have hAp := hT.ag hA223 [] trivial (by kernel_rfl)
        have e254 : a.tmps.getD 48 undef = .string (Bs x_240) := hT.vals 5 rfl 48 rfl
        have hAp := hAp.add e254
        have e255 : a.tmps.getD 54 undef = .string (Bs x_251) := hT.vals 11 rfl 54 rfl
        have hAp := hAp.add e255
        exact opk_callX hAp rfl (r_call (args := #[.string (Bs x_240), .string (Bs x_251)]) Try.func42 (by decide) rfl (map_arr (ml_cons (hAp.get rfl) (ml_cons (hAp.get rfl) ml_nil))) rfl) (hc257 w hT.chg) fun _ _ _ _ e hR => ⟨_, e, hR.1, fun _ => hR.2⟩
      · intro a w hT
        have hAp := hT.ag hA223 [(2, .pointer (some ⟨B_3, 0, none⟩))] ⟨rfl, trivial⟩ (by kernel_rfl)
        exact opk_val hAp rfl (r_fieldAddr (hAp.get rfl) Try.underlying26 rfl ti_23 (by decide)) fun _ _ e => ⟨_, e, Chg.refl _ _, fun _ => Eq.refl _⟩
      · intro a w hT
        have hAp := hT.ag hA223 [] trivial (by kernel_rfl)
        have e259 : a.tmps.getD 56 undef = .pointer (some ⟨B_3, 3, none⟩) := hT.vals 13 rfl 56 rfl
        have hAp := hAp.add e259
        exact opk_val hAp rfl (r_load1 Try.underlying23 rfl (hAp.get rfl) ((hB228.ext hT.chg).cell 3 _ rfl)) fun _ _ e => ⟨_, e, Chg.refl _ _, fun _ => Eq.refl _⟩
      · intro a w hT
        have hAp := hT.ag hA223 [(6, .int .i64 i_82)] ⟨rfl, trivial⟩ (by kernel_rfl)
        exact opk_val hAp rfl (r_move (hAp.get rfl)) fun _ _ e => ⟨_, e, Chg.refl _ _, fun _ => Eq.refl _⟩
      · intro a w hT
        have hAp := hT.ag hA223 [] trivial (by kernel_rfl)
        have e260 : a.tmps.getD 57 undef = Sl.v a_1_Attrs := hT.vals 14 rfl 57 rfl
        have hAp := hAp.add e260
        have e261 : a.tmps.getD 58 undef = .int .i64 i_82 := hT.vals 15 rfl 58 rfl
        have hAp := hAp.add e261
        exact opk_val hAp rfl (r_indexAddr (hAp.get rfl) (hAp.get rfl) Try.underlying23 ti_33 hp263.1 hp263.2) fun _ _ e => ⟨_, e, Chg.refl _ _, fun _ => Eq.refl _⟩
      · intro a w hT
        have hAp := hT.ag hA223 [] trivial (by kernel_rfl)
        have e265 : a.tmps.getD 59 undef = .pointer (some (p_262.add (i_82.toNat * 2))) := hT.vals 16 rfl 59 rfl
        have hAp := hAp.add e265
        exact opk_val hAp rfl (r_fieldAddr (hAp.get rfl) Try.underlying33 rfl ti_9 (by decide)) fun _ _ e => ⟨_, e, Chg.refl _ _, fun _ => Eq.refl _⟩
      · intro a w hT
        have hAp := hT.ag hA223 [] trivial (by kernel_rfl)
        have e266 : a.tmps.getD 60 undef = .pointer (some ((p_262.add (i_82.toNat * 2)).add 1)) := hT.vals 17 rfl 60 rfl
        have hAp := hAp.add e266
        exact opk_val hAp rfl (r_load1 Try.underlying9 rfl (hAp.get rfl) (Ext.cell hT.chg hx268)) fun _ _ e => ⟨_, e, Chg.refl _ _, fun _ => Eq.refl _⟩
      · intro a w hT
        have hAp := hT.ag hA223 [(3, .pointer (some ⟨B_11, 0, none⟩))] ⟨rfl, trivial⟩ (by kernel_rfl)
        exact opk_val hAp rfl (r_fieldAddr (hAp.get rfl) Try.underlying26 rfl ti_23 (by decide)) fun _ _ e => ⟨_, e, Chg.refl _ _, fun _ => Eq.refl _⟩
      · intro a w hT
        have hAp := hT.ag hA223 [] trivial (by kernel_rfl)
        have e270 : a.tmps.getD 62 undef = .pointer (some ⟨B_11, 3, none⟩) := hT.vals 19 rfl 62 rfl
        have hAp := hAp.add e270
        exact opk_val hAp rfl (r_load1 Try.underlying23 rfl (hAp.get rfl) ((hB229.ext hT.chg).cell 3 _ rfl)) fun _ _ e => ⟨_, e, Chg.refl _ _, fun _ => Eq.refl _⟩
      · intro a w hT
        have hAp := hT.ag hA223 [(6, .int .i64 i_82)] ⟨rfl, trivial⟩ (by kernel_rfl)
        exact opk_val hAp rfl (r_move (hAp.get rfl)) fun _ _ e => ⟨_, e, Chg.refl _ _, fun _ => Eq.refl _⟩
      · intro a w hT
        have hAp := hT.ag hA223 [] trivial (by kernel_rfl)
        have e271 : a.tmps.getD 63 undef = Sl.v b_2_Attrs := hT.vals 20 rfl 63 rfl
        have hAp := hAp.add e271
        have e272 : a.tmps.getD 64 undef = .int .i64 i_82 := hT.vals 21 rfl 64 rfl
        have hAp := hAp.add e272
        exact opk_val hAp rfl (r_indexAddr (hAp.get rfl) (hAp.get rfl) Try.underlying23 ti_33 hp274.1 hp274.2) fun _ _ e => ⟨_, e, Chg.refl _ _, fun _ => Eq.refl _⟩
      · intro a w hT
        have hAp := hT.ag hA223 [] trivial (by kernel_rfl)
        have e276 : a.tmps.getD 65 undef = .pointer (some (p_273.add (i_82.toNat * 2))) := hT.vals 22 rfl 65 rfl
        have hAp := hAp.add e276
        exact opk_val hAp rfl (r_fieldAddr (hAp.get rfl) Try.underlying33 rfl ti_9 (by decide)) fun _ _ e => ⟨_, e, Chg.refl _ _, fun _ => Eq.refl _⟩
      · intro a w hT
        have hAp := hT.ag hA223 [] trivial (by kernel_rfl)
        have e277 : a.tmps.getD 66 undef = .pointer (some ((p_273.add (i_82.toNat * 2)).add 1)) := hT.vals 23 rfl 66 rfl
        have hAp := hAp.add e277
        exact opk_val hAp rfl (r_load1 Try.underlying9 rfl (hAp.get rfl) (Ext.cell hT.chg hx279)) fun _ _ e => ⟨_, e, Chg.refl _ _, fun _ => Eq.refl _⟩
      · intro a w hT
        have hAp := hT.ag hA223 [] trivial (by kernel_rfl)
        have e281 : a.tmps.getD 61 undef = .string (Bs x_267) := hT.vals 18 rfl 61 rfl
        have hAp := hAp.add e281
        have e282 : a.tmps.getD 67 undef = .string (Bs x_278) := hT.vals 24 rfl 67 rfl
        have hAp := hAp.add e282
        exact opk_callX hAp rfl (r_call (args := #[.string (Bs x_267), .string (Bs x_278)]) Try.func42 (by decide) rfl (map_arr (ml_cons (hAp.get rfl) (ml_cons (hAp.get rfl) ml_nil))) rfl) (hc284 w hT.chg) fun _ _ _ _ e hR => ⟨_, e, hR.1, fun _ => hR.2⟩
      · intro a w hT
        have hAp := hT.ag hA223 [] trivial (by kernel_rfl)
        have e286 : a.tmps.getD 55 undef = .int .i64 r_256 := hT.vals 12 rfl 55 rfl
        have hAp := hAp.add e286
        have e287 : a.tmps.getD 68 undef = .int .i64 r_283 := hT.vals 25 rfl 68 rfl
        have hAp := hAp.add e287
        exact opk_new (fun B => .slice (some ⟨B, 0, none⟩) 2 2) hAp rfl (r_buildSlice (vs := #[(0, .int .i64 r_256), (1, .int .i64 r_283)]) (cs := [.int .i64 r_256, .int .i64 r_283]) (map_arr2 (ml2_cons (hAp.get rfl) (ml2_cons (hAp.get rfl) (ml2_nil)))) Try.underlying22 ti_3 rfl rfl (by kernel_rfl)) fun _ w289 B_288 hE290 hN291 hB292 _ e => ⟨_, e, hE290, fun _ => ⟨B_288, Nat.le_trans hT.chg.size hN291.ge, hB292, rfl⟩⟩
      · intro a w hT
        have hAp := hT.ag hA223 [] trivial (by kernel_rfl)
        obtain ⟨B_288, hf294, hf295, e293⟩ := hT.vals 26 rfl 69 rfl
        have hAp := hAp.add e293
        exact opk_callX hAp rfl (r_call (args := #[Sl.v (Sl.mk (some ⟨B_288, 0, none⟩) 2 2)]) Try.func40 (by decide) rfl (map_arr (ml_cons (hAp.get rfl) ml_nil)) rfl) (hc297 B_288 w hT.chg hf294 hf295) fun _ _ _ _ e hR => ⟨_, e, hR.1, fun _ => hR.2⟩
      · intro a w hT
        have hAp := hT.ag hA223 [] trivial (by kernel_rfl)
        have e299 : a.tmps.getD 70 undef = .int .i64 r_296 := hT.vals 27 rfl 70 rfl
        have hAp := hAp.add e299
        exact opk_val hAp rfl (r_assign (hAp.get rfl)) fun _ _ e => ⟨_, e, Chg.refl _ _, fun _ => Eq.refl _⟩
      · intro a300 w301 hE302 hag303 hv304
        have hA300 := hag303 [(2, .pointer (some ⟨B_3, 0, none⟩)), (3, .pointer (some ⟨B_11, 0, none⟩)), (6, .int .i64 i_82)] ⟨rfl, rfl, rfl, trivial⟩ (by kernel_rfl)
        have e305 : a300.tmps.getD 5 undef = .int .i64 r_296 := hv304 28 rfl 5 rfl
        have hA306 := hA300.add e305
        have hB307 := hB228.ext hE302
        have hB308 := hB229.ext hE302
        have hC309 : Chg [] w226 w301 := hE302
        refine PR_end (by kernel_rfl) ?_
        have hA310 := hA306.keep [(2, .pointer (some ⟨B_3, 0, none⟩)), (3, .pointer (some ⟨B_11, 0, none⟩)), (5, .int .i64 r_296), (6, .int .i64 i_82)] ⟨rfl, rfl, rfl, rfl, trivial⟩
        refine block_normal ?_
        refine then_normal ?_
        refine wp_region_lit ?_
        refine sq (opk_val hA310 rfl (r_move (hA310.get rfl)) fun a311 hA311 _ => ?_)
        obtain ⟨hS313, ht314⟩ := ht298
        refine sq (opk_val hA311 rfl (r_addI (hA311.get rfl) rfl hS313) fun a312 hA312 _ => ?_)
        refine sq (opk_val hA312 rfl (r_assign (hA312.get rfl)) fun a315 hA315 _ => ?_)
        refine sq_end ?_
        have hA316 := hA315.keep [(2, .pointer (some ⟨B_3, 0, none⟩)), (3, .pointer (some ⟨B_11, 0, none⟩)), (5, .int .i64 r_296), (6, .int .i64 (i_82 + 1))] ⟨rfl, rfl, rfl, rfl, trivial⟩
        have ht317 := ht314 w301    hC309
        have hA318 := hA316.keep [(2, .pointer (some ⟨B_3, 0, none⟩)), (3, .pointer (some ⟨B_11, 0, none⟩)), (5, .int .i64 r_296), (6, .int .i64 (i_82 + 1))] ⟨rfl, rfl, rfl, rfl, trivial⟩
        exact then_normal ⟨(r_296, i_82 + 1, w301), ⟨hA318, hB307, hB308, rfl, ht317.1⟩, ht317.2⟩
    · have ht225 := ht205.2 ((b_and_f hc).imp (fun h => ((b_and_f h).imp (fun h => (of_decide_eq_false h)) (fun h => (of_decide_eq_false h)))) (fun h => (of_decide_eq_false h)))
      clear hc
      refine wp_exit ?_
      refine then_exit ?_
      refine then_exit ?_
      refine block_hit ?_
      have hA319 := hA223.keep [(2, .pointer (some ⟨B_3, 0, none⟩)), (3, .pointer (some ⟨B_11, 0, none⟩)), (5, .int .i64 x_81)] ⟨rfl, rfl, rfl, trivial⟩
      refine then_normal ?_
      refine wp_seq ?_
      refine wp_region_lit ?_
      refine sq (opk_val hA319 rfl (r_move (hA319.get rfl)) fun a320 hA320 _ => ?_)
      refine sq (opk_val hA320 rfl (r_fieldAddr (hA320.get rfl) Try.underlying26 rfl ti_23 (by decide)) fun a321 hA321 _ => ?_)
      refine sq (opk_val hA321 rfl (r_load1 Try.underlying23 rfl (hA321.get rfl) (hB201.cell 3 _ rfl)) fun a322 hA322 _ => ?_)
      refine sq (opk_val hA322 rfl (r_len (hA322.get rfl) Try.underlying23) fun a323 hA323 _ => ?_)
      refine sq (opk_val hA323 rfl (r_fieldAddr (hA323.get rfl) Try.underlying26 rfl ti_23 (by decide)) fun a324 hA324 _ => ?_)
      refine sq (opk_val hA324 rfl (r_load1 Try.underlying23 rfl (hA324.get rfl) (hB202.cell 3 _ rfl)) fun a325 hA325 _ => ?_)
      refine sq (opk_val hA325 rfl (r_len (hA325.get rfl) Try.underlying23) fun a326 hA326 _ => ?_)
      refine sq (opk_call hA326 rfl (r_call (args := #[.int .i64 (a_1_Attrs.n : Int), .int .i64 (b_2_Attrs.n : Int)]) Try.func41 (by decide) rfl (map_arr (ml_cons (hA326.get rfl) (ml_cons (hA326.get rfl) ml_nil))) rfl) ht225 fun a328 v334 w329 hA328 _ hn331 hz332 hK333 => ?_)
      obtain ⟨r_327, rfl, ht330⟩ := hK333
      have hB335 := hB201.kept hn331 (.head _)
      have hB336 := hB202.kept hn331 (.tail _ (.head _))
      refine sq (opk_new (fun B => .slice (some ⟨B, 0, none⟩) 2 2) hA328 rfl (r_buildSlice (vs := #[(0, .int .i64 x_81), (1, .int .i64 r_327)]) (cs := [.int .i64 x_81, .int .i64 r_327]) (map_arr2 (ml2_cons (hA328.get rfl) (ml2_cons (hA328.get rfl) (ml2_nil)))) Try.underlying22 ti_3 rfl rfl (by kernel_rfl)) fun a339 w338 B_337 hE340 hN341 hB342 hA339 _ => ?_)
      have hne343 : B_3 ≠ B_337 := Nat.ne_of_lt (Nat.lt_of_lt_of_le hB335.lt hN341.ge)
      have hne344 : B_11 ≠ B_337 := Nat.ne_of_lt (Nat.lt_of_lt_of_le hB336.lt hN341.ge)
      have hN345 : New w329 B_337 w338 := hN341
      have hB346 := hB335.ext hE340
      have hB347 := hB336.ext hE340
      have hC348 : Chg [] w329 w338 := hE340
      have ht349 := ht330 w338 B_337 hN345  hC348
      have ht350 := ht349 hB342
      refine sq (opk_call hA339 rfl (r_call (args := #[Sl.v (Sl.mk (some ⟨B_337, 0, none⟩) 2 2)]) Try.func40 (by decide) rfl (map_arr (ml_cons (hA339.get rfl) ml_nil)) rfl) ht350 fun a352 v358 w353 hA352 _ hn355 hz356 hK357 => ?_)
      obtain ⟨r_351, rfl, ht354⟩ := hK357
      have hB359 := hB346.kept hn355 (.head _)
      have hB360 := hB347.kept hn355 (.tail _ (.head _))
      refine sq (opk_val hA352 rfl (r_assign (hA352.get rfl)) fun a361 hA361 _ => ?_)
      refine sq_end ?_
      have hA362 := hA361.keep [(2, .pointer (some ⟨B_3, 0, none⟩)), (3, .pointer (some ⟨B_11, 0, none⟩)), (5, .int .i64 r_351)] ⟨rfl, rfl, rfl, trivial⟩
      refine then_normal ?_
      refine wp_seq ?_
      refine wp_seq ?_
      refine wp_region_lit ?_
      refine sq (opk_val hA362 rfl (r_assign rfl) fun a363 hA363 _ => ?_)
      refine sq_end ?_
      have hA364 := hA363.keep [(2, .pointer (some ⟨B_3, 0, none⟩)), (3, .pointer (some ⟨B_11, 0, none⟩)), (5, .int .i64 r_351), (7, .int .i64 0)] ⟨rfl, rfl, rfl, rfl, trivial⟩
      refine then_normal ?_
      refine wp_block ?_
      obtain ⟨J_368, mu_369, h0445, ht444⟩ := ht354
      refine wp_loop_st (σ := Int × Int × World) (fun s a w => Ag 120 a [(2, .pointer (some ⟨B_3, 0, none⟩)), (3, .pointer (some ⟨B_11, 0, none⟩)), (5, .int .i64 s.1), (7, .int .i64 s.2.1)] ∧ Box w B_3 26 [.int .i64 a_1_Kind, .string (Bs a_1_Name), .string (Bs a_1_Text), Sl.v a_1_Attrs, Sl.v a_1_Kids] ∧ Box w B_11 26 [.int .i64 b_2_Kind, .string (Bs b_2_Name), .string (Bs b_2_Text), Sl.v b_2_Attrs, Sl.v b_2_Kids] ∧ w = s.2.2 ∧ J_368 s.1 s.2.1 s.2.2) (fun s => mu_369 s.1 s.2.1 s.2.2) (r_351, 0, w353) ⟨hA364.keep [(2, .pointer (some ⟨B_3, 0, none⟩)), (3, .pointer (some ⟨B_11, 0, none⟩)), (5, .int .i64 r_351), (7, .int .i64 0)] ⟨rfl, rfl, rfl, rfl, trivial⟩, hB359, hB360, rfl, h0445⟩ ?_
      rintro ⟨x_365, i_366, w367⟩ a441 w_ ⟨hA441, hB442, hB443, hw_, hJ447⟩
      have hw_ : w367 = w_ := hw_.symm
      subst hw_
      have ht446 := ht444 x_365 i_366 _ hJ447
      refine wp_seq ?_
      refine wp_seq ?_
      refine wp_region_lit ?_
      refine sq (opk_val hA441 rfl (r_move (hA441.get rfl)) fun a448 hA448 _ => ?_)
      refine sq (opk_val hA448 rfl (r_eql (hA448.get rfl) rfl) fun a449 hA449 _ => ?_)
      refine sq (opk_val hA449 rfl (r_move (hA449.get rfl)) fun a450 hA450 _ => ?_)
      refine sq (opk_gval hA450 rfl rfl (g := true) (e := (decide (x_365 = 0))) rfl (fun hg => r_move (hA450.get rfl)) fun a451 hA451 _ => ?_)
      refine sq (opk_gval hA451 rfl rfl (g := true) (e := (decide (x_365 = 0))) rfl (fun hg => r_fieldAddr (hA451.get rfl) Try.underlying26 rfl ti_24 (by decide)) fun a452 hA452 _ => ?_)
      refine sq (opk_gval hA452 rfl rfl (g := true) (e := (decide (x_365 = 0))) rfl (fun hg => r_load1 Try.underlying24 rfl (cv_get (hA452.get rfl) hg) (hB442.cell 4 _ rfl)) fun a453 hA453 _ => ?_)
      refine sq (opk_gval hA453 rfl rfl (g := true) (e := (decide (x_365 = 0))) rfl (fun hg => r_len (cv_get (hA453.get rfl) hg) Try.underlying24) fun a454 hA454 _ => ?_)
      refine sq (opk_gval hA454 rfl rfl (g := true) (e := (decide (x_365 = 0))) rfl (fun hg => r_lss (cv_get (hA454.get rfl) hg) (cv_get (hA454.get rfl) hg)) fun a455 hA455 _ => ?_)
      refine sq (opk_val hA455 rfl (r_pick_and (g := (true && ((decide (x_365 = 0)) == true))) (hA455.get rfl) (hA455.get rfl) (fun he => g_mkt rfl he)) fun a456 hA456 _ => ?_)
      refine sq (opk_val hA456 rfl (r_move (hA456.get rfl)) fun a457 hA457 _ => ?_)
      refine sq (opk_gval hA457 rfl rfl (g := true) (e := ((decide (x_365 = 0)) && (decide (i_366 < (a_1_Kids.n : Int))))) rfl (fun hg => r_move (hA457.get rfl)) fun a458 hA458 _ => ?_)
      refine sq (opk_gval hA458 rfl rfl (g := true) (e := ((decide (x_365 = 0)) && (decide (i_366 < (a_1_Kids.n : Int))))) rfl (fun hg => r_fieldAddr (hA458.get rfl) Try.underlying26 rfl ti_24 (by decide)) fun a459 hA459 _ => ?_)
      refine sq (opk_gval hA459 rfl rfl (g := true) (e := ((decide (x_365 = 0)) && (decide (i_366 < (a_1_Kids.n : Int))))) rfl (fun hg => r_load1 Try.underlying24 rfl (cv_get (hA459.get rfl) hg) (hB443.cell 4 _ rfl)) fun a460 hA460 _ => ?_)
      refine sq (opk_gval hA460 rfl rfl (g := true) (e := ((decide (x_365 = 0)) && (decide (i_366 < (a_1_Kids.n : Int))))) rfl (fun hg => r_len (cv_get (hA460.get rfl) hg) Try.underlying24) fun a461 hA461 _ => ?_)
      refine sq (opk_gval hA461 rfl rfl (g := true) (e := ((decide (x_365 = 0)) && (decide (i_366 < (a_1_Kids.n : Int))))) rfl (fun hg => r_lss (cv_get (hA461.get rfl) hg) (cv_get (hA461.get rfl) hg)) fun a462 hA462 _ => ?_)
      refine sq (opk_val hA462 rfl (r_pick_and (g := (true && (((decide (x_365 = 0)) && (decide (i_366 < (a_1_Kids.n : Int)))) == true))) (hA462.get rfl) (hA462.get rfl) (fun he => g_mkt rfl he)) fun a463 hA463 _ => ?_)
      refine sq_end ?_
      have hA464 := hA463.keep [(2, .pointer (some ⟨B_3, 0, none⟩)), (3, .pointer (some ⟨B_11, 0, none⟩)), (5, .int .i64 x_365), (7, .int .i64 i_366), (96, .bool (((decide (x_365 = 0)) && (decide (i_366 < (a_1_Kids.n : Int)))) && (decide (i_366 < (b_2_Kids.n : Int)))))] ⟨rfl, rfl, rfl, rfl, rfl, trivial⟩
      refine then_normal ?_
      refine wp_cond_split (hA464.get rfl) (fun hc => ?_) (fun hc => ?_)
      · have ht465 := ht446.1 ⟨⟨(of_decide_eq_true (b_and_t (b_and_t hc).1).1), (of_decide_eq_true (b_and_t (b_and_t hc).1).2)⟩, (of_decide_eq_true (b_and_t hc).2)⟩
        clear hc
        refine wp_skip ?_
        refine then_normal ?_
        refine wp_seq ?_
        refine wp_block ?_
        refine draw' (by kernel_rfl) fun w467 hE468 => ?_
        have hB469 := hB442.ext hE468
        have hB470 := hB443.ext hE468
        have hC471 : Chg [] w367 w467 := hE468
        have ht472 := ht465 w467    hC471
        obtain ⟨p_476, hp477, ht478⟩ := ht472
        obtain ⟨x_480_Kind, x_480_Name, x_480_Text, x_480_Attrs, x_480_Kids, hx481, ht482⟩ := ht478
        obtain ⟨p_486, hp487, ht488⟩ := ht482
        obtain ⟨x_490_Kind, x_490_Name, x_490_Text, x_490_Attrs, x_490_Kids, hx491, ht492⟩ := ht488
        obtain ⟨r_495, hc496, ht497⟩ := ht492
        refine par (D := [[], [0], [], [0, 1, 2], [0, 1, 2, 3], [], [5], [], [5, 6, 7], [5, 6, 7, 8], [0, 1, 2, 3, 4, 5, 6, 7, 8, 9], [0, 1, 2, 3, 4, 5, 6, 7, 8, 9, 10]]) (S := [0, 1, 2, 3, 4, 5, 6, 7, 8, 9, 10, 11]) (F := []) (V := VL [(0, fun v _ => v = .pointer (some ⟨B_3, 4, none⟩)), (1, fun v _ => v = Sl.v a_1_Kids), (2, fun v _ => v = .int .i64 i_366), (3, fun v _ => v = .pointer (some (p_476.add (i_366.toNat * 5)))), (4, fun v _ => v = .agg #[.int .i64 x_480_Kind, .string (Bs x_480_Name), .string (Bs x_480_Text), Sl.v x_480_Attrs, Sl.v x_480_Kids]), (5, fun v _ => v = .pointer (some ⟨B_11, 4, none⟩)), (6, fun v _ => v = Sl.v b_2_Kids), (7, fun v _ => v = .int .i64 i_366), (8, fun v _ => v = .pointer (some (p_486.add (i_366.toNat * 5)))), (9, fun v _ => v = .agg #[.int .i64 x_490_Kind, .string (Bs x_490_Name), .string (Bs x_490_Text), Sl.v x_490_Attrs, Sl.v x_490_Kids]), (10, fun v _ => v = .int .i64 r_495), (11, fun v _ => v = .int .i64 r_495)]) hA464 (by kernel_rfl) ⟨fun _ _ _ _ h => by first | exact h | (change _ = _ at h; change _ = _; exact h), fun _ _ _ _ h => by first | exact h | (change _ = _ at h; change _ = _; exact h), fun _ _ _ _ h => by first | exact h | (change _ = _ at h; change _ = _; exact h), fun _ _ _ _ h => by first | exact h | (change _ = _ at h; change _ = _; exact h), fun _ _ _ _ h => by first | exact h | (change _ = _ at h; change _ = _; exact h), fun _ _ _ _ h => by first | exact h | (change _ = _ at h; change _ = _; exact h), fun _ _ _ _ h => by first | exact h | (change _ = _ at h; change _ = _; exact h), fun _ _ _ _ h => by first | exact h | (change _ = _ at h; change _ = _; exact h), fun _ _ _ _ h => by first | exact h | (change _ = _ at h; change _ = _; exact h), fun _ _ _ _ h => by first | exact h | (change _ = _ at h; change _ = _; exact h), fun _ _ _ _ h => by first | exact h | (change _ = _ at h; change _ = _; exact h), fun _ _ _ _ h => by first | exact h | (change _ = _ at h; change _ = _; exact h), trivial⟩ ⟨?_, ?_, ?_, ?_, ?_, ?_, ?_, ?_, ?_, ?_, ?_, ?_, trivial⟩ ?_
        · intro a w hT
          have hAp := hT.ag hA464 [(2, .pointer (some ⟨B_3, 0, none⟩))] ⟨rfl, trivial⟩ (by kernel_rfl)
          exact opk_val hAp rfl (r_fieldAddr (hAp.get rfl) Try.underlying26 rfl ti_24 (by decide)) fun _ _ e => ⟨_, e, Chg.refl _ _, fun _ => Eq.refl _⟩
        · intro a w hT
          have hAp := hT.ag hA464 [] trivial (by kernel_rfl)
          have e473 : a.tmps.getD 99 undef = .pointer (some ⟨B_3, 4, none⟩) := hT.vals 0 rfl 99 rfl
          have hAp := hAp.add e473
          exact opk_val hAp rfl (r_load1 Try.underlying24 rfl (hAp.get rfl) ((hB469.ext hT.chg).cell 4 _ rfl)) fun _ _ e => ⟨_, e, Chg.refl _ _, fun _ => Eq.refl _⟩
        · intro a w hT
          have hAp := hT.ag hA464 [(7, .int .i64 i_366)] ⟨rfl, trivial⟩ (by kernel_rfl)
          exact opk_val hAp rfl (r_move (hAp.get rfl)) fun _ _ e => ⟨_, e, Chg.refl _ _, fun _ => Eq.refl _⟩
        · intro a w hT
          have hAp := hT.ag hA464 [] trivial (by kernel_rfl)
          have e474 : a.tmps.getD 100 undef = Sl.v a_1_Kids := hT.vals 1 rfl 100 rfl
          have hAp := hAp.add e474
          have e475 : a.tmps.getD 101 undef = .int .i64 i_366 := hT.vals 2 rfl 101 rfl
          have hAp := hAp.add e475
          exact opk_val hAp rfl (r_indexAddr (hAp.get rfl) (hAp.get rfl) Try.underlying24 ti_26 hp477.1 hp477.2) fun _ _ e => ⟨_, e, Chg.refl _ _, fun _ => Eq.refl _⟩
        · intro a w hT
          have hAp := hT.ag hA464 [] trivial (by kernel_rfl)
          have e479 : a.tmps.getD 102 undef = .pointer (some (p_476.add (i_366.toNat * 5))) := hT.vals 3 rfl 102 rfl
          have hAp := hAp.add e479
          exact opk_val hAp rfl (r_loadN Try.underlying26 rfl ti_26 (hAp.get rfl) (hx481.ext hT.chg)) fun _ _ e => ⟨_, e, Chg.refl _ _, fun _ => Eq.refl _⟩
        · intro a w hT
          have hAp := hT.ag hA464 [(3, .pointer (some ⟨B_11, 0, none⟩))] ⟨rfl, trivial⟩ (by kernel_rfl)
          exact opk_val hAp rfl (r_fieldAddr (hAp.get rfl) Try.underlying26 rfl ti_24 (by decide)) fun _ _ e => ⟨_, e, Chg.refl _ _, fun _ => Eq.refl _⟩
        · intro a w hT
          have hAp := hT.ag hA464 [] trivial (by kernel_rfl)
          have e483 : a.tmps.getD 104 undef = .pointer (some ⟨B_11, 4, none⟩) := hT.vals 5 rfl 104 rfl
          have hAp := hAp.add e483
          exact opk_val hAp rfl (r_load1 Try.underlying24 rfl (hAp.get rfl) ((hB470.ext hT.chg).cell 4 _ rfl)) fun _ _ e => ⟨_, e, Chg.refl _ _, fun _ => Eq.refl _⟩
        · intro a w hT
          have hAp := hT.ag hA464 [(7, .int .i64 i_366)] ⟨rfl, trivial⟩ (by kernel_rfl)
          exact opk_val hAp rfl (r_move (hAp.get rfl)) fun _ _ e => ⟨_, e, Chg.refl _ _, fun _ => Eq.refl _⟩
        · intro a w hT
          have hAp := hT.ag hA464 [] trivial (by kernel_rfl)
          have e484 : a.tmps.getD 105 undef = Sl.v b_2_Kids := hT.vals 6 rfl 105 rfl
          have hAp := hAp.add e484
          have e485 : a.tmps.getD 106 undef = .int .i64 i_366 := hT.vals 7 rfl 106 rfl
          have hAp := hAp.add e485
          exact opk_val hAp rfl (r_indexAddr (hAp.get rfl) (hAp.get rfl) Try.underlying24 ti_26 hp487.1 hp487.2) fun _ _ e => ⟨_, e, Chg.refl _ _, fun _ => Eq.refl _⟩
        · intro a w hT
          have hAp := hT.ag hA464 [] trivial (by kernel_rfl)
          have e489 : a.tmps.getD 107 undef = .pointer (some (p_486.add (i_366.toNat * 5))) := hT.vals 8 rfl 107 rfl
          have hAp := hAp.add e489
          exact opk_val hAp rfl (r_loadN Try.underlying26 rfl ti_26 (hAp.get rfl) (hx491.ext hT.chg)) fun _ _ e => ⟨_, e, Chg.refl _ _, fun _ => Eq.refl _⟩
        · intro a w hT
          have hAp := hT.ag hA464 [] trivial (by kernel_rfl)
          have e493 : a.tmps.getD 103 undef = .agg #[.int .i64 x_480_Kind, .string (Bs x_480_Name), .string (Bs x_480_Text), Sl.v x_480_Attrs, Sl.v x_480_Kids] := hT.vals 4 rfl 103 rfl
          have hAp := hAp.add e493
          have e494 : a.tmps.getD 108 undef = .agg #[.int .i64 x_490_Kind, .string (Bs x_490_Name), .string (Bs x_490_Text), Sl.v x_490_Attrs, Sl.v x_490_Kids] := hT.vals 9 rfl 108 rfl
          have hAp := hAp.add e494
          exact opk_callX hAp rfl (r_call (args := #[.agg #[.int .i64 x_480_Kind, .string (Bs x_480_Name), .string (Bs x_480_Text), Sl.v x_480_Attrs, Sl.v x_480_Kids], .agg #[.int .i64 x_490_Kind, .string (Bs x_490_Name), .string (Bs x_490_Text), Sl.v x_490_Attrs, Sl.v x_490_Kids]]) Try.func24 (by decide) rfl (map_arr (ml_cons (hAp.get rfl) (ml_cons (hAp.get rfl) ml_nil))) rfl) (hc496 w hT.chg) fun _ _ _ _ e hR => ⟨_, e, hR.1, fun _ => hR.2⟩
        · intro a w hT
          have hAp := hT.ag hA464 [] trivial (by kernel_rfl)
          have e498 : a.tmps.getD 109 undef = .int .i64 r_495 := hT.vals 10 rfl 109 rfl
          have hAp := hAp.add e498
          exact opk_val hAp rfl (r_assign (hAp.get rfl)) fun _ _ e => ⟨_, e, Chg.refl _ _, fun _ => Eq.refl _⟩
        · intro a499 w500 hE501 hag502 hv503
          have hA499 := hag502 [(2, .pointer (some ⟨B_3, 0, none⟩)), (3, .pointer (some ⟨B_11, 0, none⟩)), (7, .int .i64 i_366)] ⟨rfl, rfl, rfl, trivial⟩ (by kernel_rfl)
          have e504 : a499.tmps.getD 5 undef = .int .i64 r_495 := hv503 11 rfl 5 rfl
          have hA505 := hA499.add e504
          have hB506 := hB469.ext hE501
          have hB507 := hB470.ext hE501
          have hC508 : Chg [] w467 w500 := hE501
          refine PR_end (by kernel_rfl) ?_
          have hA509 := hA505.keep [(2, .pointer (some ⟨B_3, 0, none⟩)), (3, .pointer (some ⟨B_11, 0, none⟩)), (5, .int .i64 r_495), (7, .int .i64 i_366)] ⟨rfl, rfl, rfl, rfl, trivial⟩
          refine block_normal ?_
          refine then_normal ?_
          refine wp_region_lit ?_
          refine sq (opk_val hA509 rfl (r_move (hA509.get rfl)) fun a510 hA510 _ => ?_)
          obtain ⟨hS512, ht513⟩ := ht497
          refine sq (opk_val hA510 rfl (r_addI (hA510.get rfl) rfl hS512) fun a511 hA511 _ => ?_)
          refine sq (opk_val hA511 rfl (r_assign (hA511.get rfl)) fun a514 hA514 _ => ?_)
          refine sq_end ?_
          have hA515 := hA514.keep [(2, .pointer (some ⟨B_3, 0, none⟩)), (3, .pointer (some ⟨B_11, 0, none⟩)), (5, .int .i64 r_495), (7, .int .i64 (i_366 + 1))] ⟨rfl, rfl, rfl, rfl, trivial⟩
          have ht516 := ht513 w500    hC508
          have hA517 := hA515.keep [(2, .pointer (some ⟨B_3, 0, none⟩)), (3, .pointer (some ⟨B_11, 0, none⟩)), (5, .int .i64 r_495), (7, .int .i64 (i_366 + 1))] ⟨rfl, rfl, rfl, rfl, trivial⟩
          exact then_normal ⟨(r_495, i_366 + 1, w500), ⟨hA517, hB506, hB507, rfl, ht516.1⟩, ht516.2⟩
      · have ht466 := ht446.2 ((b_and_f hc).imp (fun h => ((b_and_f h).imp (fun h => (of_decide_eq_false h)) (fun h => (of_decide_eq_false h)))) (fun h => (of_decide_eq_false h)))
        clear hc
        refine wp_exit ?_
        refine then_exit ?_
        refine then_exit ?_
        refine block_hit ?_
        have hA518 := hA464.keep [(2, .pointer (some ⟨B_3, 0, none⟩)), (3, .pointer (some ⟨B_11, 0, none⟩)), (5, .int .i64 x_365)] ⟨rfl, rfl, rfl, trivial⟩
        refine then_normal ?_
        refine wp_seq ?_
        refine wp_region_lit ?_
        refine sq (opk_val hA518 rfl (r_move (hA518.get rfl)) fun a519 hA519 _ => ?_)
        refine sq (opk_val hA519 rfl (r_fieldAddr (hA519.get rfl) Try.underlying26 rfl ti_24 (by decide)) fun a520 hA520 _ => ?_)
        refine sq (opk_val hA520 rfl (r_load1 Try.underlying24 rfl (hA520.get rfl) (hB442.cell 4 _ rfl)) fun a521 hA521 _ => ?_)
        refine sq (opk_val hA521 rfl (r_len (hA521.get rfl) Try.underlying24) fun a522 hA522 _ => ?_)
        refine sq (opk_val hA522 rfl (r_fieldAddr (hA522.get rfl) Try.underlying26 rfl ti_24 (by decide)) fun a523 hA523 _ => ?_)
        refine sq (opk_val hA523 rfl (r_load1 Try.underlying24 rfl (hA523.get rfl) (hB443.cell 4 _ rfl)) fun a524 hA524 _ => ?_)
        refine sq (opk_val hA524 rfl (r_len (hA524.get rfl) Try.underlying24) fun a525 hA525 _ => ?_)
        refine sq (opk_call hA525 rfl (r_call (args := #[.int .i64 (a_1_Kids.n : Int), .int .i64 (b_2_Kids.n : Int)]) Try.func41 (by decide) rfl (map_arr (ml_cons (hA525.get rfl) (ml_cons (hA525.get rfl) ml_nil))) rfl) ht466 fun a527 v533 w528 hA527 _ hn530 hz531 hK532 => ?_)
        obtain ⟨r_526, rfl, ht529⟩ := hK532
        have hB534 := hB442.kept hn530 (.head _)
        have hB535 := hB443.kept hn530 (.tail _ (.head _))
        refine sq (opk_new (fun B => .slice (some ⟨B, 0, none⟩) 2 2) hA527 rfl (r_buildSlice (vs := #[(0, .int .i64 x_365), (1, .int .i64 r_526)]) (cs := [.int .i64 x_365, .int .i64 r_526]) (map_arr2 (ml2_cons (hA527.get rfl) (ml2_cons (hA527.get rfl) (ml2_nil)))) Try.underlying22 ti_3 rfl rfl (by kernel_rfl)) fun a538 w537 B_536 hE539 hN540 hB541 hA538 _ => ?_)
        have hne542 : B_3 ≠ B_536 := Nat.ne_of_lt (Nat.lt_of_lt_of_le hB534.lt hN540.ge)
        have hne543 : B_11 ≠ B_536 := Nat.ne_of_lt (Nat.lt_of_lt_of_le hB535.lt hN540.ge)
        have hN544 : New w528 B_536 w537 := hN540
        have hB545 := hB534.ext hE539
        have hB546 := hB535.ext hE539
        have hC547 : Chg [] w528 w537 := hE539
        have ht548 := ht529 w537 B_536 hN544  hC547
        have ht549 := ht548 hB541
        refine sq (opk_call hA538 rfl (r_call (args := #[Sl.v (Sl.mk (some ⟨B_536, 0, none⟩) 2 2)]) Try.func40 (by decide) rfl (map_arr (ml_cons (hA538.get rfl) ml_nil)) rfl) ht549 fun a551 v557 w552 hA551 _ hn554 hz555 hK556 => ?_)
        obtain ⟨r_550, rfl, ht553⟩ := hK556
        have hB558 := hB545.kept hn554 (.head _)
        have hB559 := hB546.kept hn554 (.tail _ (.head _))
        refine sq (opk_val hA551 rfl (r_assign (hA551.get rfl)) fun a560 hA560 _ => ?_)
        refine sq_end ?_
        have hA561 := hA560.keep [(4, .int .i64 r_550)] ⟨rfl, trivial⟩
        refine then_normal ?_
        refine wp_ret ?_
        exact res_all (vs := [.int .i64 r_550]) rfl hA561 ⟨res_of_tmp hA561 rfl, trivial⟩ ht553

/-- The condition of topiary/tree.Same. -/
def tree_Same.vc (a_1_Kind : Int) (a_1_Name : Str) (a_1_Text : Str) (a_1_Attrs : Sl) (a_1_Kids : Sl) (b_2_Kind : Int) (b_2_Name : Str) (b_2_Text : Str) (b_2_Attrs : Sl) (b_2_Kids : Sl) (R : Value → World → Prop) (w : World) : Prop :=
((((((a_1_Kind ≠ b_2_Kind) ∨ (a_1_Name ≠ b_2_Name)) ∨ (a_1_Text ≠ b_2_Text)) ∨ ((a_1_Attrs.n : Int) ≠ (b_2_Attrs.n : Int))) ∨ ((a_1_Kids.n : Int) ≠ (b_2_Kids.n : Int))) →
∀ (w12 : World) (B_3 : Nat) (B_11 : Nat), New w B_3 w12 → New w B_11 w12 → B_3 ≠ B_11 → Chg [] w w12 →
R (.bool false) w12) ∧
((((((¬ (a_1_Kind ≠ b_2_Kind)) ∧ (¬ (a_1_Name ≠ b_2_Name))) ∧ (¬ (a_1_Text ≠ b_2_Text))) ∧ (¬ ((a_1_Attrs.n : Int) ≠ (b_2_Attrs.n : Int)))) ∧ (¬ ((a_1_Kids.n : Int) ≠ (b_2_Kids.n : Int)))) →
∀ (w12 : World) (B_3 : Nat) (B_11 : Nat), New w B_3 w12 → New w B_11 w12 → B_3 ≠ B_11 → Chg [] w w12 →
∃ (J_74 : Int → World → Prop) (mu_75 : Int → World → Nat),
J_74 0 w12 ∧
(∀ (x_72 : Int) (w73 : World), J_74 x_72 w73 →
((x_72 < (a_1_Attrs.n : Int)) →
((0 : Int) ≤ x_72 ∧ x_72 < (a_1_Attrs.n : Int)) ∧ ∃ p_170 : Addr, a_1_Attrs.a = some p_170 ∧
∃ (x_176_Name : Str) (x_176_Value : Str), (Cells w73 (p_170.add (x_72.toNat * 2)) [.string (Bs x_176_Name), .string (Bs x_176_Value)]) ∧
∀ (w202 : World) (B_179 : Nat), New w73 B_179 w202 → Chg [] w73 w202 →
∃ p_213 : Addr, (((0 : Int) ≤ x_72 ∧ x_72 < (b_2_Attrs.n : Int)) ∧ b_2_Attrs.a = some p_213) ∧
∃ (x_217_Name : Str) (x_217_Value : Str), (Cells w202 (p_213.add (x_72.toNat * 2)) [.string (Bs x_217_Name), .string (Bs x_217_Value)]) ∧
((¬ (x_176_Name = x_217_Name ∧ x_176_Value = x_217_Value)) →
∀ (w223 : World), Chg [] w202 w223 →
R (.bool false) w223) ∧
((¬ (¬ (x_176_Name = x_217_Name ∧ x_176_Value = x_217_Value))) →
(I64 (x_72 + 1)) ∧
∀ (w223 : World), Chg [] w202 w223 →
J_74 (x_72 + 1) w223 ∧ mu_75 (x_72 + 1) w223 < mu_75 x_72 w73)) ∧
((¬ (x_72 < (a_1_Attrs.n : Int))) →
∃ (J_254 : Int → World → Prop) (mu_255 : Int → World → Nat),
J_254 0 w73 ∧
(∀ (x_252 : Int) (w253 : World), J_254 x_252 w253 →
((x_252 < (a_1_Kids.n : Int)) →
((0 : Int) ≤ x_252 ∧ x_252 < (a_1_Kids.n : Int)) ∧ ∃ p_346 : Addr, a_1_Kids.a = some p_346 ∧
∃ (x_352_Kind : Int) (x_352_Name : Str) (x_352_Text : Str) (x_352_Attrs : Sl) (x_352_Kids : Sl), (Cells w253 (p_346.add (x_252.toNat * 5)) [.int .i64 x_352_Kind, .string (Bs x_352_Name), .string (Bs x_352_Text), Sl.v x_352_Attrs, Sl.v x_352_Kids]) ∧
∀ (w375 : World) (B_355 : Nat), New w253 B_355 w375 → Chg [] w253 w375 →
∃ p_385 : Addr, (((0 : Int) ≤ x_252 ∧ x_252 < (b_2_Kids.n : Int)) ∧ b_2_Kids.a = some p_385) ∧
∃ (x_389_Kind : Int) (x_389_Name : Str) (x_389_Text : Str) (x_389_Attrs : Sl) (x_389_Kids : Sl), (Cells w375 (p_385.add (x_252.toNat * 5)) [.int .i64 x_389_Kind, .string (Bs x_389_Name), .string (Bs x_389_Text), Sl.v x_389_Attrs, Sl.v x_389_Kids]) ∧
∃ (r_394 : Bool), (∀ w' : World, Ext w375 w' → Calls Try.prog 25 #[.agg #[.int .i64 x_352_Kind, .string (Bs x_352_Name), .string (Bs x_352_Text), Sl.v x_352_Attrs, Sl.v x_352_Kids], .agg #[.int .i64 x_389_Kind, .string (Bs x_389_Name), .string (Bs x_389_Text), Sl.v x_389_Attrs, Sl.v x_389_Kids]] w' (Ret fun v w'' => Ext w' w'' ∧ v = .bool r_394)) ∧
((r_394 = false) →
∀ (w399 : World), Chg [] w375 w399 →
R (.bool false) w399) ∧
((r_394 = true) →
(I64 (x_252 + 1)) ∧
∀ (w399 : World), Chg [] w375 w399 →
J_254 (x_252 + 1) w399 ∧ mu_255 (x_252 + 1) w399 < mu_255 x_252 w253)) ∧
((¬ (x_252 < (a_1_Kids.n : Int))) →
R (.bool true) w253)))))
set_option maxHeartbeats 1000000 in
set_option maxRecDepth 10000 in
theorem tree_Same.ok (a_1_Kind : Int) (a_1_Name : Str) (a_1_Text : Str) (a_1_Attrs : Sl) (a_1_Kids : Sl) (b_2_Kind : Int) (b_2_Name : Str) (b_2_Text : Str) (b_2_Attrs : Sl) (b_2_Kids : Sl) {R : Value → World → Prop} {w : World} (ht0 : tree_Same.vc a_1_Kind a_1_Name a_1_Text a_1_Attrs a_1_Kids b_2_Kind b_2_Name b_2_Text b_2_Attrs b_2_Kids R w) : Calls Try.prog 25 #[.agg #[.int .i64 a_1_Kind, .string (Bs a_1_Name), .string (Bs a_1_Text), Sl.v a_1_Attrs, Sl.v a_1_Kids], .agg #[.int .i64 b_2_Kind, .string (Bs b_2_Name), .string (Bs b_2_Text), Sl.v b_2_Attrs, Sl.v b_2_Kids]] w (Ret R) := by
  refine enter [.agg #[.int .i64 a_1_Kind, .string (Bs a_1_Name), .string (Bs a_1_Text), Sl.v a_1_Attrs, Sl.v a_1_Kids], .agg #[.int .i64 b_2_Kind, .string (Bs b_2_Name), .string (Bs b_2_Text), Sl.v b_2_Attrs, Sl.v b_2_Kids]] Try.func25 rfl Try.ntmps25 rfl ?_
  intro a0 hA0
  unfold tree_Same.vc at ht0
  refine wp_seq ?_
  refine wp_region_lit ?_
  refine sq (opk_new (fun B => .pointer (some ⟨B, 0, none⟩)) hA0 rfl (r_box (cs := [.int .i64 a_1_Kind, .string (Bs a_1_Name), .string (Bs a_1_Text), Sl.v a_1_Attrs, Sl.v a_1_Kids]) (hA0.get rfl) rfl) fun a5 w4 B_3 hE6 hN7 hB8 hA5 _ => ?_)
  have hN9 : New w B_3 w4 := hN7
  have hC10 : Chg [] w w4 := hE6
  refine sq (opk_new (fun B => .pointer (some ⟨B, 0, none⟩)) hA5 rfl (r_box (cs := [.int .i64 b_2_Kind, .string (Bs b_2_Name), .string (Bs b_2_Text), Sl.v b_2_Attrs, Sl.v b_2_Kids]) (hA5.get rfl) rfl) fun a13 w12 B_11 hE14 hN15 hB16 hA13 _ => ?_)
  have hne17 : B_3 ≠ B_11 := Nat.ne_of_lt (Nat.lt_of_lt_of_le hB8.lt hN15.ge)
  have hN18 := New.of hC10 hN15
  have hB19 := hB8.ext hE14
  have hC20 := hC10.more hE14
  have hN21 := hN9.up hE14.size
  refine sq (opk_val hA13 rfl (r_assign rfl) fun a22 hA22 _ => ?_)
  refine sq_end ?_
  have hA23 := hA22.keep [(2, .pointer (some ⟨B_3, 0, none⟩)), (3, .pointer (some ⟨B_11, 0, none⟩))] ⟨rfl, rfl, trivial⟩
  refine then_normal ?_
  refine wp_seq ?_
  refine wp_seq ?_
  refine wp_region_lit ?_
  refine sq (opk_val hA23 rfl (r_fieldAddr (hA23.get rfl) Try.underlying26 rfl ti_3 (by decide)) fun a24 hA24 _ => ?_)
  refine sq (opk_val hA24 rfl (r_load1 Try.underlying3 rfl (hA24.get rfl) (hB19.cell 0 _ rfl)) fun a25 hA25 _ => ?_)
  refine sq (opk_val hA25 rfl (r_fieldAddr (hA25.get rfl) Try.underlying26 rfl ti_3 (by decide)) fun a26 hA26 _ => ?_)
  refine sq (opk_val hA26 rfl (r_load1 Try.underlying3 rfl (hA26.get rfl) (hB16.cell 0 _ rfl)) fun a27 hA27 _ => ?_)
  refine sq (opk_val hA27 rfl (r_neq (hA27.get rfl) (hA27.get rfl)) fun a28 hA28 _ => ?_)
  refine sq (opk_val hA28 rfl (r_move (hA28.get rfl)) fun a29 hA29 _ => ?_)
  refine sq (opk_gval hA29 rfl rfl (g := true) (e := (decide (a_1_Kind ≠ b_2_Kind))) rfl (fun hg => r_fieldAddr (hA29.get rfl) Try.underlying26 rfl ti_9 (by decide)) fun a30 hA30 _ => ?_)
  refine sq (opk_gval hA30 rfl rfl (g := true) (e := (decide (a_1_Kind ≠ b_2_Kind))) rfl (fun hg => r_load1 Try.underlying9 rfl (cv_get (hA30.get rfl) hg) (hB19.cell 1 _ rfl)) fun a31 hA31 _ => ?_)
  refine sq (opk_gval hA31 rfl rfl (g := true) (e := (decide (a_1_Kind ≠ b_2_Kind))) rfl (fun hg => r_fieldAddr (hA31.get rfl) Try.underlying26 rfl ti_9 (by decide)) fun a32 hA32 _ => ?_)
  refine sq (opk_gval hA32 rfl rfl (g := true) (e := (decide (a_1_Kind ≠ b_2_Kind))) rfl (fun hg => r_load1 Try.underlying9 rfl (cv_get (hA32.get rfl) hg) (hB16.cell 1 _ rfl)) fun a33 hA33 _ => ?_)
  refine sq (opk_gval hA33 rfl rfl (g := true) (e := (decide (a_1_Kind ≠ b_2_Kind))) rfl (fun hg => r_sneq (cv_get (hA33.get rfl) hg) (cv_get (hA33.get rfl) hg)) fun a34 hA34 _ => ?_)
  refine sq (opk_val hA34 rfl (r_pick_or (g := (true && ((decide (a_1_Kind ≠ b_2_Kind)) == false))) (hA34.get rfl) (hA34.get rfl) (fun he => g_mkf rfl he)) fun a35 hA35 _ => ?_)
  refine sq (opk_val hA35 rfl (r_move (hA35.get rfl)) fun a36 hA36 _ => ?_)
  refine sq (opk_gval hA36 rfl rfl (g := true) (e := ((decide (a_1_Kind ≠ b_2_Kind)) || (decide (a_1_Name ≠ b_2_Name)))) rfl (fun hg => r_fieldAddr (hA36.get rfl) Try.underlying26 rfl ti_9 (by decide)) fun a37 hA37 _ => ?_)
  refine sq (opk_gval hA37 rfl rfl (g := true) (e := ((decide (a_1_Kind ≠ b_2_Kind)) || (decide (a_1_Name ≠ b_2_Name)))) rfl (fun hg => r_load1 Try.underlying9 rfl (cv_get (hA37.get rfl) hg) (hB19.cell 2 _ rfl)) fun a38 hA38 _ => ?_)
  refine sq (opk_gval hA38 rfl rfl (g := true) (e := ((decide (a_1_Kind ≠ b_2_Kind)) || (decide (a_1_Name ≠ b_2_Name)))) rfl (fun hg => r_fieldAddr (hA38.get rfl) Try.underlying26 rfl ti_9 (by decide)) fun a39 hA39 _ => ?_)
  refine sq (opk_gval hA39 rfl rfl (g := true) (e := ((decide (a_1_Kind ≠ b_2_Kind)) || (decide (a_1_Name ≠ b_2_Name)))) rfl (fun hg => r_load1 Try.underlying9 rfl (cv_get (hA39.get rfl) hg) (hB16.cell 2 _ rfl)) fun a40 hA40 _ => ?_)
  refine sq (opk_gval hA40 rfl rfl (g := true) (e := ((decide (a_1_Kind ≠ b_2_Kind)) || (decide (a_1_Name ≠ b_2_Name)))) rfl (fun hg => r_sneq (cv_get (hA40.get rfl) hg) (cv_get (hA40.get rfl) hg)) fun a41 hA41 _ => ?_)
  refine sq (opk_val hA41 rfl (r_pick_or (g := (true && (((decide (a_1_Kind ≠ b_2_Kind)) || (decide (a_1_Name ≠ b_2_Name))) == false))) (hA41.get rfl) (hA41.get rfl) (fun he => g_mkf rfl he)) fun a42 hA42 _ => ?_)
  refine sq (opk_val hA42 rfl (r_move (hA42.get rfl)) fun a43 hA43 _ => ?_)
  refine sq (opk_gval hA43 rfl rfl (g := true) (e := (((decide (a_1_Kind ≠ b_2_Kind)) || (decide (a_1_Name ≠ b_2_Name))) || (decide (a_1_Text ≠ b_2_Text)))) rfl (fun hg => r_fieldAddr (hA43.get rfl) Try.underlying26 rfl ti_23 (by decide)) fun a44 hA44 _ => ?_)
  refine sq (opk_gval hA44 rfl rfl (g := true) (e := (((decide (a_1_Kind ≠ b_2_Kind)) || (decide (a_1_Name ≠ b_2_Name))) || (decide (a_1_Text ≠ b_2_Text)))) rfl (fun hg => r_load1 Try.underlying23 rfl (cv_get (hA44.get rfl) hg) (hB19.cell 3 _ rfl)) fun a45 hA45 _ => ?_)
  refine sq (opk_gval hA45 rfl rfl (g := true) (e := (((decide (a_1_Kind ≠ b_2_Kind)) || (decide (a_1_Name ≠ b_2_Name))) || (decide (a_1_Text ≠ b_2_Text)))) rfl (fun hg => r_len (cv_get (hA45.get rfl) hg) Try.underlying23) fun a46 hA46 _ => ?_)
  refine sq (opk_gval hA46 rfl rfl (g := true) (e := (((decide (a_1_Kind ≠ b_2_Kind)) || (decide (a_1_Name ≠ b_2_Name))) || (decide (a_1_Text ≠ b_2_Text)))) rfl (fun hg => r_fieldAddr (hA46.get rfl) Try.underlying26 rfl ti_23 (by decide)) fun a47 hA47 _ => ?_)
  refine sq (opk_gval hA47 rfl rfl (g := true) (e := (((decide (a_1_Kind ≠ b_2_Kind)) || (decide (a_1_Name ≠ b_2_Name))) || (decide (a_1_Text ≠ b_2_Text)))) rfl (fun hg => r_load1 Try.underlying23 rfl (cv_get (hA47.get rfl) hg) (hB16.cell 3 _ rfl)) fun a48 hA48 _ => ?_)
  refine sq (opk_gval hA48 rfl rfl (g := true) (e := (((decide (a_1_Kind ≠ b_2_Kind)) || (decide (a_1_Name ≠ b_2_Name))) || (decide (a_1_Text ≠ b_2_Text)))) rfl (fun hg => r_len (cv_get (hA48.get rfl) hg) Try.underlying23) fun a49 hA49 _ => ?_)
  refine sq (opk_gval hA49 rfl rfl (g := true) (e := (((decide (a_1_Kind ≠ b_2_Kind)) || (decide (a_1_Name ≠ b_2_Name))) || (decide (a_1_Text ≠ b_2_Text)))) rfl (fun hg => r_neq (cv_get (hA49.get rfl) hg) (cv_get (hA49.get rfl) hg)) fun a50 hA50 _ => ?_)
  refine sq (opk_val hA50 rfl (r_pick_or (g := (true && ((((decide (a_1_Kind ≠ b_2_Kind)) || (decide (a_1_Name ≠ b_2_Name))) || (decide (a_1_Text ≠ b_2_Text))) == false))) (hA50.get rfl) (hA50.get rfl) (fun he => g_mkf rfl he)) fun a51 hA51 _ => ?_)
  refine sq (opk_val hA51 rfl (r_move (hA51.get rfl)) fun a52 hA52 _ => ?_)
  refine sq (opk_gval hA52 rfl rfl (g := true) (e := ((((decide (a_1_Kind ≠ b_2_Kind)) || (decide (a_1_Name ≠ b_2_Name))) || (decide (a_1_Text ≠ b_2_Text))) || (decide ((a_1_Attrs.n : Int) ≠ (b_2_Attrs.n : Int))))) rfl (fun hg => r_fieldAddr (hA52.get rfl) Try.underlying26 rfl ti_24 (by decide)) fun a53 hA53 _ => ?_)
  refine sq (opk_gval hA53 rfl rfl (g := true) (e := ((((decide (a_1_Kind ≠ b_2_Kind)) || (decide (a_1_Name ≠ b_2_Name))) || (decide (a_1_Text ≠ b_2_Text))) || (decide ((a_1_Attrs.n : Int) ≠ (b_2_Attrs.n : Int))))) rfl (fun hg => r_load1 Try.underlying24 rfl (cv_get (hA53.get rfl) hg) (hB19.cell 4 _ rfl)) fun a54 hA54 _ => ?_)
  refine sq (opk_gval hA54 rfl rfl (g := true) (e := ((((decide (a_1_Kind ≠ b_2_Kind)) || (decide (a_1_Name ≠ b_2_Name))) || (decide (a_1_Text ≠ b_2_Text))) || (decide ((a_1_Attrs.n : Int) ≠ (b_2_Attrs.n : Int))))) rfl (fun hg => r_len (cv_get (hA54.get rfl) hg) Try.underlying24) fun a55 hA55 _ => ?_)
  refine sq (opk_gval hA55 rfl rfl (g := true) (e := ((((decide (a_1_Kind ≠ b_2_Kind)) || (decide (a_1_Name ≠ b_2_Name))) || (decide (a_1_Text ≠ b_2_Text))) || (decide ((a_1_Attrs.n : Int) ≠ (b_2_Attrs.n : Int))))) rfl (fun hg => r_fieldAddr (hA55.get rfl) Try.underlying26 rfl ti_24 (by decide)) fun a56 hA56 _ => ?_)
  refine sq (opk_gval hA56 rfl rfl (g := true) (e := ((((decide (a_1_Kind ≠ b_2_Kind)) || (decide (a_1_Name ≠ b_2_Name))) || (decide (a_1_Text ≠ b_2_Text))) || (decide ((a_1_Attrs.n : Int) ≠ (b_2_Attrs.n : Int))))) rfl (fun hg => r_load1 Try.underlying24 rfl (cv_get (hA56.get rfl) hg) (hB16.cell 4 _ rfl)) fun a57 hA57 _ => ?_)
  refine sq (opk_gval hA57 rfl rfl (g := true) (e := ((((decide (a_1_Kind ≠ b_2_Kind)) || (decide (a_1_Name ≠ b_2_Name))) || (decide (a_1_Text ≠ b_2_Text))) || (decide ((a_1_Attrs.n : Int) ≠ (b_2_Attrs.n : Int))))) rfl (fun hg => r_len (cv_get (hA57.get rfl) hg) Try.underlying24) fun a58 hA58 _ => ?_)
  refine sq (opk_gval hA58 rfl rfl (g := true) (e := ((((decide (a_1_Kind ≠ b_2_Kind)) || (decide (a_1_Name ≠ b_2_Name))) || (decide (a_1_Text ≠ b_2_Text))) || (decide ((a_1_Attrs.n : Int) ≠ (b_2_Attrs.n : Int))))) rfl (fun hg => r_neq (cv_get (hA58.get rfl) hg) (cv_get (hA58.get rfl) hg)) fun a59 hA59 _ => ?_)
  refine sq (opk_val hA59 rfl (r_pick_or (g := (true && (((((decide (a_1_Kind ≠ b_2_Kind)) || (decide (a_1_Name ≠ b_2_Name))) || (decide (a_1_Text ≠ b_2_Text))) || (decide ((a_1_Attrs.n : Int) ≠ (b_2_Attrs.n : Int)))) == false))) (hA59.get rfl) (hA59.get rfl) (fun he => g_mkf rfl he)) fun a60 hA60 _ => ?_)
  refine sq_end ?_
  have hA61 := hA60.keep [(2, .pointer (some ⟨B_3, 0, none⟩)), (3, .pointer (some ⟨B_11, 0, none⟩)), (45, .bool (((((decide (a_1_Kind ≠ b_2_Kind)) || (decide (a_1_Name ≠ b_2_Name))) || (decide (a_1_Text ≠ b_2_Text))) || (decide ((a_1_Attrs.n : Int) ≠ (b_2_Attrs.n : Int)))) || (decide ((a_1_Kids.n : Int) ≠ (b_2_Kids.n : Int)))))] ⟨rfl, rfl, rfl, trivial⟩
  refine then_normal ?_
  refine wp_cond_split (hA61.get rfl) (fun hc => ?_) (fun hc => ?_)
  · have ht62 := ht0.1 ((b_or_t hc).imp (fun h => ((b_or_t h).imp (fun h => ((b_or_t h).imp (fun h => ((b_or_t h).imp (fun h => (of_decide_eq_true h)) (fun h => (of_decide_eq_true h)))) (fun h => (of_decide_eq_true h)))) (fun h => (of_decide_eq_true h)))) (fun h => (of_decide_eq_true h)))
    clear hc
    refine wp_seq ?_
    refine wp_region_lit ?_
    refine sq (opk_val hA61 rfl (r_assign rfl) fun a64 hA64 _ => ?_)
    refine sq_end ?_
    have hA65 := hA64.keep [(4, .bool false)] ⟨rfl, trivial⟩
    refine then_normal ?_
    refine wp_ret ?_
    refine then_ret ?_
    have ht66 := ht62 w12 B_3 B_11 hN21 hN18 hne17 hC20
    exact res_all (vs := [.bool false]) rfl hA65 ⟨res_of_tmp hA65 rfl, trivial⟩ ht66
  · have ht63 := ht0.2 ⟨⟨⟨⟨(of_decide_eq_false (b_or_f (b_or_f (b_or_f (b_or_f hc).1).1).1).1), (of_decide_eq_false (b_or_f (b_or_f (b_or_f (b_or_f hc).1).1).1).2)⟩, (of_decide_eq_false (b_or_f (b_or_f (b_or_f hc).1).1).2)⟩, (of_decide_eq_false (b_or_f (b_or_f hc).1).2)⟩, (of_decide_eq_false (b_or_f hc).2)⟩
    clear hc
    refine wp_skip ?_
    refine then_normal ?_
    refine wp_seq ?_
    refine wp_seq ?_
    refine wp_region_lit ?_
    refine sq (opk_val hA61 rfl (r_fieldAddr (hA61.get rfl) Try.underlying26 rfl ti_23 (by decide)) fun a67 hA67 _ => ?_)
    refine sq (opk_val hA67 rfl (r_load1 Try.underlying23 rfl (hA67.get rfl) (hB19.cell 3 _ rfl)) fun a68 hA68 _ => ?_)
    refine sq (opk_val hA68 rfl (r_len (hA68.get rfl) Try.underlying23) fun a69 hA69 _ => ?_)
    refine sq (opk_val hA69 rfl (r_move rfl) fun a70 hA70 _ => ?_)
    refine sq_end ?_
    have hA71 := hA70.keep [(2, .pointer (some ⟨B_3, 0, none⟩)), (3, .pointer (some ⟨B_11, 0, none⟩)), (47, Sl.v a_1_Attrs), (48, .int .i64 (a_1_Attrs.n : Int)), (49, .int .i64 0)] ⟨rfl, rfl, rfl, rfl, rfl, trivial⟩
    refine then_normal ?_
    refine wp_block ?_
    have ht157 := ht63 w12 B_3 B_11 hN21 hN18 hne17 hC20
    obtain ⟨J_74, mu_75, h0162, ht161⟩ := ht157
    refine wp_loop_st (σ := Int × World) (fun s a w => Ag 79 a [(2, .pointer (some ⟨B_3, 0, none⟩)), (3, .pointer (some ⟨B_11, 0, none⟩)), (47, Sl.v a_1_Attrs), (48, .int .i64 (a_1_Attrs.n : Int)), (49, .int .i64 s.1)] ∧ Box w B_3 26 [.int .i64 a_1_Kind, .string (Bs a_1_Name), .string (Bs a_1_Text), Sl.v a_1_Attrs, Sl.v a_1_Kids] ∧ Box w B_11 26 [.int .i64 b_2_Kind, .string (Bs b_2_Name), .string (Bs b_2_Text), Sl.v b_2_Attrs, Sl.v b_2_Kids] ∧ w = s.2 ∧ J_74 s.1 s.2) (fun s => mu_75 s.1 s.2) (0, w12) ⟨hA71.keep [(2, .pointer (some ⟨B_3, 0, none⟩)), (3, .pointer (some ⟨B_11, 0, none⟩)), (47, Sl.v a_1_Attrs), (48, .int .i64 (a_1_Attrs.n : Int)), (49, .int .i64 0)] ⟨rfl, rfl, rfl, rfl, rfl, trivial⟩, hB19, hB16, rfl, h0162⟩ ?_
    rintro ⟨x_72, w73⟩ a158 w_ ⟨hA158, hB159, hB160, hw_, hJ164⟩
    have hw_ : w73 = w_ := hw_.symm
    subst hw_
    have ht163 := ht161 x_72 _ hJ164
    refine wp_seq ?_
    refine wp_region_lit ?_
    refine sq (opk_val hA158 rfl (r_lss (hA158.get rfl) (hA158.get rfl)) fun a165 hA165 _ => ?_)
    refine sq_end ?_
    have hA166 := hA165.keep [(2, .pointer (some ⟨B_3, 0, none⟩)), (3, .pointer (some ⟨B_11, 0, none⟩)), (47, Sl.v a_1_Attrs), (48, .int .i64 (a_1_Attrs.n : Int)), (49, .int .i64 x_72), (50, .bool (decide (x_72 < (a_1_Attrs.n : Int))))] ⟨rfl, rfl, rfl, rfl, rfl, rfl, trivial⟩
    refine then_normal ?_
    refine wp_seq ?_
    refine wp_cond_split (hA166.get rfl) (fun hc => ?_) (fun hc => ?_)
    · have ht167 := ht163.1 (of_decide_eq_true hc)
      clear hc
      refine wp_skip ?_
      refine then_normal ?_
      refine wp_seq ?_
      refine wp_block ?_
      refine wp_seq ?_
      refine wp_region_lit ?_
      refine sq (opk_val hA166 rfl (r_move (hA166.get rfl)) fun a169 hA169 _ => ?_)
      obtain ⟨hb171, p_170, hp172, ht173⟩ := ht167
      refine sq (opk_val hA169 rfl (r_indexAddr (hA169.get rfl) (hA169.get rfl) Try.underlying23 ti_33 hb171 hp172) fun a174 hA174 _ => ?_)
      obtain ⟨x_176_Name, x_176_Value, hx177, ht178⟩ := ht173
      refine sq (opk_val hA174 rfl (r_loadN Try.underlying33 rfl ti_33 (hA174.get rfl) hx177) fun a175 hA175 _ => ?_)
      refine sq (opk_new (fun B => .pointer (some ⟨B, 0, none⟩)) hA175 rfl (r_alloc (cs := [.string (Bs ([] : Str)), .string (Bs ([] : Str))]) ti_33 rfl) fun a181 w180 B_179 hE182 hN183 hB184 hA181 _ => ?_)
      have hne185 : B_3 ≠ B_179 := Nat.ne_of_lt (Nat.lt_of_lt_of_le hB159.lt hN183.ge)
      have hne186 : B_11 ≠ B_179 := Nat.ne_of_lt (Nat.lt_of_lt_of_le hB160.lt hN183.ge)
      have hN187 : New w73 B_179 w180 := hN183
      have hB188 := hB159.ext hE182
      have hB189 := hB160.ext hE182
      have hC190 : Chg [] w73 w180 := hE182
      refine sq (opk_val hA181 rfl (r_assign (hA181.get rfl)) fun a191 hA191 _ => ?_)
      refine sq (opk_store hA191 hB184 (r_store (vs := [.string (Bs x_176_Name), .string (Bs x_176_Value)]) (hA191.get rfl) (hA191.get rfl) rfl ti_33 hB184 rfl (ones_all [.string (Bs x_176_Name), .string (Bs x_176_Value)] rfl)) fun a193 w192 hS194 hB195 hA193 => ?_)
      have hB196 : Box w192 B_179 33 [.string (Bs x_176_Name), .string (Bs x_176_Value)] := hB195
      have hB197 := hB188.keep hS194 (by simpa using hne185)
      have hB198 := hB189.keep hS194 (by simpa using hne186)
      have hC199 := hC190.storeNew hN187 hS194
      have hN200 := hN187.up hS194.size
      refine sq_end ?_
      have hA201 := hA193.keep [(2, .pointer (some ⟨B_3, 0, none⟩)), (3, .pointer (some ⟨B_11, 0, none⟩)), (5, .int .i64 x_72), (6, .pointer (some ⟨B_179, 0, none⟩)), (47, Sl.v a_1_Attrs), (48, .int .i64 (a_1_Attrs.n : Int)), (49, .int .i64 x_72)] ⟨rfl, rfl, rfl, rfl, rfl, rfl, rfl, trivial⟩
      refine then_normal ?_
      refine wp_seq ?_
      refine draw' (by kernel_rfl) fun w202 hE203 => ?_
      have hB204 := hB197.ext hE203
      have hB205 := hB198.ext hE203
      have hB206 := hB196.ext hE203
      have hC207 := hC199.more hE203
      have hN208 := hN200.up hE203.size
      have ht209 := ht178 w202 B_179 hN208  hC207
      obtain ⟨p_213, hp214, ht215⟩ := ht209
      obtain ⟨x_217_Name, x_217_Value, hx218, ht219⟩ := ht215
      refine par (D := [[], [], [1], [], [1, 2, 3], [1, 2, 3, 4], [0, 1, 2, 3, 4, 5]]) (S := [0, 1, 2, 3, 4, 5, 6]) (F := []) (V := VL [(0, fun v _ => v = .agg #[.string (Bs x_176_Name), .string (Bs x_176_Value)]), (1, fun v _ => v = .pointer (some ⟨B_11, 3, none⟩)), (2, fun v _ => v = Sl.v b_2_Attrs), (3, fun v _ => v = .int .i64 x_72), (4, fun v _ => v = .pointer (some (p_213.add (x_72.toNat * 2)))), (5, fun v _ => v = .agg #[.string (Bs x_217_Name), .string (Bs x_217_Value)]), (6, fun v _ => v = .bool (decide (¬ (x_176_Name = x_217_Name ∧ x_176_Value = x_217_Value))))]) hA201 (by kernel_rfl) ⟨fun _ _ _ _ h => by first | exact h | (change _ = _ at h; change _ = _; exact h), fun _ _ _ _ h => by first | exact h | (change _ = _ at h; change _ = _; exact h), fun _ _ _ _ h => by first | exact h | (change _ = _ at h; change _ = _; exact h), fun _ _ _ _ h => by first | exact h | (change _ = _ at h; change _ = _; exact h), fun _ _ _ _ h => by first | exact h | (change _ = _ at h; change _ = _; exact h), fun _ _ _ _ h => by first | exact h | (change _ = _ at h; change _ = _; exact h), fun _ _ _ _ h => by first | exact h | (change _ = _ at h; change _ = _; exact h), trivial⟩ ⟨?_, ?_, ?_, ?_, ?_, ?_, ?_, trivial⟩ ?_
      · intro a w hT
        have hAp := hT.ag hA201 [(6, .pointer (some ⟨B_179, 0, none⟩))] ⟨rfl, trivial⟩ (by kernel_rfl)
        exact opk_val hAp rfl (r_loadN (cs := [.string (Bs x_176_Name), .string (Bs x_176_Value)]) Try.underlying33 rfl ti_33 (hAp.get rfl) ((hB206.ext hT.chg).part 0 _ rfl)) fun _ _ e => ⟨_, e, Chg.refl _ _, fun _ => Eq.refl _⟩
      · intro a w hT
        have hAp := hT.ag hA201 [(3, .pointer (some ⟨B_11, 0, none⟩))] ⟨rfl, trivial⟩ (by kernel_rfl)
        exact opk_val hAp rfl (r_fieldAddr (hAp.get rfl) Try.underlying26 rfl ti_23 (by decide)) fun _ _ e => ⟨_, e, Chg.refl _ _, fun _ => Eq.refl _⟩
      · intro a w hT
        have hAp := hT.ag hA201 [] trivial (by kernel_rfl)
        have e210 : a.tmps.getD 55 undef = .pointer (some ⟨B_11, 3, none⟩) := hT.vals 1 rfl 55 rfl
        have hAp := hAp.add e210
        exact opk_val hAp rfl (r_load1 Try.underlying23 rfl (hAp.get rfl) ((hB205.ext hT.chg).cell 3 _ rfl)) fun _ _ e => ⟨_, e, Chg.refl _ _, fun _ => Eq.refl _⟩
      · intro a w hT
        have hAp := hT.ag hA201 [(5, .int .i64 x_72)] ⟨rfl, trivial⟩ (by kernel_rfl)
        exact opk_val hAp rfl (r_move (hAp.get rfl)) fun _ _ e => ⟨_, e, Chg.refl _ _, fun _ => Eq.refl _⟩
      · intro a w hT
        have hAp := hT.ag hA201 [] trivial (by kernel_rfl)
        have e211 : a.tmps.getD 56 undef = Sl.v b_2_Attrs := hT.vals 2 rfl 56 rfl
        have hAp := hAp.add e211
        have e212 : a.tmps.getD 57 undef = .int .i64 x_72 := hT.vals 3 rfl 57 rfl
        have hAp := hAp.add e212
        exact opk_val hAp rfl (r_indexAddr (hAp.get rfl) (hAp.get rfl) Try.underlying23 ti_33 hp214.1 hp214.2) fun _ _ e => ⟨_, e, Chg.refl _ _, fun _ => Eq.refl _⟩
      · intro a w hT
        have hAp := hT.ag hA201 [] trivial (by kernel_rfl)
        have e216 : a.tmps.getD 58 undef = .pointer (some (p_213.add (x_72.toNat * 2))) := hT.vals 4 rfl 58 rfl
        have hAp := hAp.add e216
        exact opk_val hAp rfl (r_loadN Try.underlying33 rfl ti_33 (hAp.get rfl) (hx218.ext hT.chg)) fun _ _ e => ⟨_, e, Chg.refl _ _, fun _ => Eq.refl _⟩
      · intro a w hT
        have hAp := hT.ag hA201 [] trivial (by kernel_rfl)
        have e220 : a.tmps.getD 54 undef = .agg #[.string (Bs x_176_Name), .string (Bs x_176_Value)] := hT.vals 0 rfl 54 rfl
        have hAp := hAp.add e220
        have e221 : a.tmps.getD 59 undef = .agg #[.string (Bs x_217_Name), .string (Bs x_217_Value)] := hT.vals 5 rfl 59 rfl
        have hAp := hAp.add e221
        exact opk_val hAp rfl (r_aneqd (hAp.get rfl) (hAp.get rfl) (eq_33 _ _ _ _)) fun _ _ e => ⟨_, e, Chg.refl _ _, fun _ => Eq.refl _⟩
      · intro a222 w223 hE224 hag225 hv226
        have hA222 := hag225 [(2, .pointer (some ⟨B_3, 0, none⟩)), (3, .pointer (some ⟨B_11, 0, none⟩)), (47, Sl.v a_1_Attrs), (48, .int .i64 (a_1_Attrs.n : Int)), (49, .int .i64 x_72)] ⟨rfl, rfl, rfl, rfl, rfl, trivial⟩ (by kernel_rfl)
        have e227 : a222.tmps.getD 60 undef = .bool (decide (¬ (x_176_Name = x_217_Name ∧ x_176_Value = x_217_Value))) := hv226 6 rfl 60 rfl
        have hA228 := hA222.add e227
        have hB229 := hB204.ext hE224
        have hB230 := hB205.ext hE224
        have hB231 := hB206.ext hE224
        have hC232 : Chg [] w202 w223 := hE224
        refine PR_end (by kernel_rfl) ?_
        have hA233 := hA228.keep [(2, .pointer (some ⟨B_3, 0, none⟩)), (3, .pointer (some ⟨B_11, 0, none⟩)), (47, Sl.v a_1_Attrs), (48, .int .i64 (a_1_Attrs.n : Int)), (49, .int .i64 x_72), (60, .bool (decide (¬ (x_176_Name = x_217_Name ∧ x_176_Value = x_217_Value))))] ⟨rfl, rfl, rfl, rfl, rfl, rfl, trivial⟩
        refine then_normal ?_
        refine wp_cond_split (hA233.get rfl) (fun hc => ?_) (fun hc => ?_)
        · have ht234 := ht219.1 (of_decide_eq_true hc)
          clear hc
          refine wp_seq ?_
          refine wp_region_lit ?_
          refine sq (opk_val hA233 rfl (r_assign rfl) fun a236 hA236 _ => ?_)
          refine sq_end ?_
          have hA237 := hA236.keep [(4, .bool false)] ⟨rfl, trivial⟩
          refine then_normal ?_
          refine wp_ret ?_
          refine block_ret ?_
          refine then_ret ?_
          refine then_ret ?_
          refine block_ret ?_
          refine then_ret ?_
          have ht238 := ht234 w223    hC232
          exact res_all (vs := [.bool false]) rfl hA237 ⟨res_of_tmp hA237 rfl, trivial⟩ ht238
        · have ht235 := ht219.2 (of_decide_eq_false hc)
          clear hc
          refine wp_skip ?_
          refine block_normal ?_
          refine then_normal ?_
          refine wp_region_lit ?_
          obtain ⟨hS240, ht241⟩ := ht235
          refine sq (opk_val hA233 rfl (r_addI (hA233.get rfl) rfl hS240) fun a239 hA239 _ => ?_)
          refine sq (opk_val hA239 rfl (r_move (hA239.get rfl)) fun a242 hA242 _ => ?_)
          refine sq_end ?_
          have hA243 := hA242.keep [(2, .pointer (some ⟨B_3, 0, none⟩)), (3, .pointer (some ⟨B_11, 0, none⟩)), (47, Sl.v a_1_Attrs), (48, .int .i64 (a_1_Attrs.n : Int)), (49, .int .i64 (x_72 + 1))] ⟨rfl, rfl, rfl, rfl, rfl, trivial⟩
          have ht244 := ht241 w223    hC232
          have hA245 := hA243.keep [(2, .pointer (some ⟨B_3, 0, none⟩)), (3, .pointer (some ⟨B_11, 0, none⟩)), (47, Sl.v a_1_Attrs), (48, .int .i64 (a_1_Attrs.n : Int)), (49, .int .i64 (x_72 + 1))] ⟨rfl, rfl, rfl, rfl, rfl, trivial⟩
          exact then_normal ⟨(x_72 + 1, w223), ⟨hA245, hB229, hB230, rfl, ht244.1⟩, ht244.2⟩
    · have ht168 := ht163.2 (of_decide_eq_false hc)
      clear hc
      refine wp_exit ?_
      refine then_exit ?_
      refine then_exit ?_
      refine block_hit ?_
      have hA246 := hA166.keep [(2, .pointer (some ⟨B_3, 0, none⟩)), (3, .pointer (some ⟨B_11, 0, none⟩))] ⟨rfl, rfl, trivial⟩
      refine then_normal ?_
      refine wp_seq ?_
      refine wp_seq ?_
      refine wp_region_lit ?_
      refine sq (opk_val hA246 rfl (r_fieldAddr (hA246.get rfl) Try.underlying26 rfl ti_24 (by decide)) fun a247 hA247 _ => ?_)
      refine sq (opk_val hA247 rfl (r_load1 Try.underlying24 rfl (hA247.get rfl) (hB159.cell 4 _ rfl)) fun a248 hA248 _ => ?_)
      refine sq (opk_val hA248 rfl (r_len (hA248.get rfl) Try.underlying24) fun a249 hA249 _ => ?_)
      refine sq (opk_val hA249 rfl (r_move rfl) fun a250 hA250 _ => ?_)
      refine sq_end ?_
      have hA251 := hA250.keep [(3, .pointer (some ⟨B_11, 0, none⟩)), (63, Sl.v a_1_Kids), (64, .int .i64 (a_1_Kids.n : Int)), (65, .int .i64 0)] ⟨rfl, rfl, rfl, rfl, trivial⟩
      refine then_normal ?_
      refine wp_block ?_
      obtain ⟨J_254, mu_255, h0338, ht337⟩ := ht168
      refine wp_loop_st (σ := Int × World) (fun s a w => Ag 79 a [(3, .pointer (some ⟨B_11, 0, none⟩)), (63, Sl.v a_1_Kids), (64, .int .i64 (a_1_Kids.n : Int)), (65, .int .i64 s.1)] ∧ Box w B_11 26 [.int .i64 b_2_Kind, .string (Bs b_2_Name), .string (Bs b_2_Text), Sl.v b_2_Attrs, Sl.v b_2_Kids] ∧ w = s.2 ∧ J_254 s.1 s.2) (fun s => mu_255 s.1 s.2) (0, w73) ⟨hA251.keep [(3, .pointer (some ⟨B_11, 0, none⟩)), (63, Sl.v a_1_Kids), (64, .int .i64 (a_1_Kids.n : Int)), (65, .int .i64 0)] ⟨rfl, rfl, rfl, rfl, trivial⟩, hB160, rfl, h0338⟩ ?_
      rintro ⟨x_252, w253⟩ a335 w_ ⟨hA335, hB336, hw_, hJ340⟩
      have hw_ : w253 = w_ := hw_.symm
      subst hw_
      have ht339 := ht337 x_252 _ hJ340
      refine wp_seq ?_
      refine wp_region_lit ?_
      refine sq (opk_val hA335 rfl (r_lss (hA335.get rfl) (hA335.get rfl)) fun a341 hA341 _ => ?_)
      refine sq_end ?_
      have hA342 := hA341.keep [(3, .pointer (some ⟨B_11, 0, none⟩)), (63, Sl.v a_1_Kids), (64, .int .i64 (a_1_Kids.n : Int)), (65, .int .i64 x_252), (66, .bool (decide (x_252 < (a_1_Kids.n : Int))))] ⟨rfl, rfl, rfl, rfl, rfl, trivial⟩
      refine then_normal ?_
      refine wp_seq ?_
      refine wp_cond_split (hA342.get rfl) (fun hc => ?_) (fun hc => ?_)
      · have ht343 := ht339.1 (of_decide_eq_true hc)
        clear hc
        refine wp_skip ?_
        refine then_normal ?_
        refine wp_seq ?_
        refine wp_block ?_
        refine wp_seq ?_
        refine wp_region_lit ?_
        refine sq (opk_val hA342 rfl (r_move (hA342.get rfl)) fun a345 hA345 _ => ?_)
        obtain ⟨hb347, p_346, hp348, ht349⟩ := ht343
        refine sq (opk_val hA345 rfl (r_indexAddr (hA345.get rfl) (hA345.get rfl) Try.underlying24 ti_26 hb347 hp348) fun a350 hA350 _ => ?_)
        obtain ⟨x_352_Kind, x_352_Name, x_352_Text, x_352_Attrs, x_352_Kids, hx353, ht354⟩ := ht349
        refine sq (opk_val hA350 rfl (r_loadN Try.underlying26 rfl ti_26 (hA350.get rfl) hx353) fun a351 hA351 _ => ?_)
        refine sq (opk_new (fun B => .pointer (some ⟨B, 0, none⟩)) hA351 rfl (r_alloc (cs := [.int .i64 0, .string (Bs ([] : Str)), .string (Bs ([] : Str)), Sl.v Sl.nil, Sl.v Sl.nil]) ti_26 rfl) fun a357 w356 B_355 hE358 hN359 hB360 hA357 _ => ?_)
        have hne361 : B_11 ≠ B_355 := Nat.ne_of_lt (Nat.lt_of_lt_of_le hB336.lt hN359.ge)
        have hN362 : New w253 B_355 w356 := hN359
        have hB363 := hB336.ext hE358
        have hC364 : Chg [] w253 w356 := hE358
        refine sq (opk_val hA357 rfl (r_assign (hA357.get rfl)) fun a365 hA365 _ => ?_)
        refine sq (opk_store hA365 hB360 (r_store (vs := [.int .i64 x_352_Kind, .string (Bs x_352_Name), .string (Bs x_352_Text), Sl.v x_352_Attrs, Sl.v x_352_Kids]) (hA365.get rfl) (hA365.get rfl) rfl ti_26 hB360 rfl (ones_all [.int .i64 x_352_Kind, .string (Bs x_352_Name), .string (Bs x_352_Text), Sl.v x_352_Attrs, Sl.v x_352_Kids] rfl)) fun a367 w366 hS368 hB369 hA367 => ?_)
        have hB370 : Box w366 B_355 26 [.int .i64 x_352_Kind, .string (Bs x_352_Name), .string (Bs x_352_Text), Sl.v x_352_Attrs, Sl.v x_352_Kids] := hB369
        have hB371 := hB363.keep hS368 (by simpa using hne361)
        have hC372 := hC364.storeNew hN362 hS368
        have hN373 := hN362.up hS368.size
        refine sq_end ?_
        have hA374 := hA367.keep [(3, .pointer (some ⟨B_11, 0, none⟩)), (7, .int .i64 x_252), (8, .pointer (some ⟨B_355, 0, none⟩)), (63, Sl.v a_1_Kids), (64, .int .i64 (a_1_Kids.n : Int)), (65, .int .i64 x_252)] ⟨rfl, rfl, rfl, rfl, rfl, rfl, trivial⟩
        refine then_normal ?_
        refine wp_seq ?_
        refine draw' (by kernel_rfl) fun w375 hE376 => ?_
        have hB377 := hB371.ext hE376
        have hB378 := hB370.ext hE376
        have hC379 := hC372.more hE376
        have hN380 := hN373.up hE376.size
        have ht381 := ht354 w375 B_355 hN380  hC379
        obtain ⟨p_385, hp386, ht387⟩ := ht381
        obtain ⟨x_389_Kind, x_389_Name, x_389_Text, x_389_Attrs, x_389_Kids, hx390, ht391⟩ := ht387
        obtain ⟨r_394, hc395, ht396⟩ := ht391
        refine par (D := [[], [], [1], [], [1, 2, 3], [1, 2, 3, 4], [0, 1, 2, 3, 4, 5], [0, 1, 2, 3, 4, 5, 6]]) (S := [0, 1, 2, 3, 4, 5, 6, 7]) (F := []) (V := VL [(0, fun v _ => v = .agg #[.int .i64 x_352_Kind, .string (Bs x_352_Name), .string (Bs x_352_Text), Sl.v x_352_Attrs, Sl.v x_352_Kids]), (1, fun v _ => v = .pointer (some ⟨B_11, 4, none⟩)), (2, fun v _ => v = Sl.v b_2_Kids), (3, fun v _ => v = .int .i64 x_252), (4, fun v _ => v = .pointer (some (p_385.add (x_252.toNat * 5)))), (5, fun v _ => v = .agg #[.int .i64 x_389_Kind, .string (Bs x_389_Name), .string (Bs x_389_Text), Sl.v x_389_Attrs, Sl.v x_389_Kids]), (6, fun v _ => v = .bool r_394), (7, fun v _ => v = .bool (!r_394))]) hA374 (by kernel_rfl) ⟨fun _ _ _ _ h => by first | exact h | (change _ = _ at h; change _ = _; exact h), fun _ _ _ _ h => by first | exact h | (change _ = _ at h; change _ = _; exact h), fun _ _ _ _ h => by first | exact h | (change _ = _ at h; change _ = _; exact h), fun _ _ _ _ h => by first | exact h | (change _ = _ at h; change _ = _; exact h), fun _ _ _ _ h => by first | exact h | (change _ = _ at h; change _ = _; exact h), fun _ _ _ _ h => by first | exact h | (change _ = _ at h; change _ = _; exact h), fun _ _ _ _ h => by first | exact h | (change _ = _ at h; change _ = _; exact h), fun _ _ _ _ h => by first | exact h | (change _ = _ at h; change _ = _; exact h), trivial⟩ ⟨?_, ?_, ?_, ?_, ?_, ?_, ?_, ?_, trivial⟩ ?_
        · intro a w hT
          have hAp := hT.ag hA374 [(8, .pointer (some ⟨B_355, 0, none⟩))] ⟨rfl, trivial⟩ (by kernel_rfl)
          exact opk_val hAp rfl (r_loadN (cs := [.int .i64 x_352_Kind, .string (Bs x_352_Name), .string (Bs x_352_Text), Sl.v x_352_Attrs, Sl.v x_352_Kids]) Try.underlying26 rfl ti_26 (hAp.get rfl) ((hB378.ext hT.chg).part 0 _ rfl)) fun _ _ e => ⟨_, e, Chg.refl _ _, fun _ => Eq.refl _⟩
        · intro a w hT
          have hAp := hT.ag hA374 [(3, .pointer (some ⟨B_11, 0, none⟩))] ⟨rfl, trivial⟩ (by kernel_rfl)
          exact opk_val hAp rfl (r_fieldAddr (hAp.get rfl) Try.underlying26 rfl ti_24 (by decide)) fun _ _ e => ⟨_, e, Chg.refl _ _, fun _ => Eq.refl _⟩
        · intro a w hT
          have hAp := hT.ag hA374 [] trivial (by kernel_rfl)
          have e382 : a.tmps.getD 71 undef = .pointer (some ⟨B_11, 4, none⟩) := hT.vals 1 rfl 71 rfl
          have hAp := hAp.add e382
          exact opk_val hAp rfl (r_load1 Try.underlying24 rfl (hAp.get rfl) ((hB377.ext hT.chg).cell 4 _ rfl)) fun _ _ e => ⟨_, e, Chg.refl _ _, fun _ => Eq.refl _⟩
        · intro a w hT
          have hAp := hT.ag hA374 [(7, .int .i64 x_252)] ⟨rfl, trivial⟩ (by kernel_rfl)
          exact opk_val hAp rfl (r_move (hAp.get rfl)) fun _ _ e => ⟨_, e, Chg.refl _ _, fun _ => Eq.refl _⟩
        · intro a w hT
          have hAp := hT.ag hA374 [] trivial (by kernel_rfl)
          have e383 : a.tmps.getD 72 undef = Sl.v b_2_Kids := hT.vals 2 rfl 72 rfl
          have hAp := hAp.add e383
          have e384 : a.tmps.getD 73 undef = .int .i64 x_252 := hT.vals 3 rfl 73 rfl
          have hAp := hAp.add e384
          exact opk_val hAp rfl (r_indexAddr (hAp.get rfl) (hAp.get rfl) Try.underlying24 ti_26 hp386.1 hp386.2) fun _ _ e => ⟨_, e, Chg.refl _ _, fun _ => Eq.refl _⟩
        · intro a w hT
          have hAp := hT.ag hA374 [] trivial (by kernel_rfl)
          have e388 : a.tmps.getD 74 undef = .pointer (some (p_385.add (x_252.toNat * 5))) := hT.vals 4 rfl 74 rfl
          have hAp := hAp.add e388
          exact opk_val hAp rfl (r_loadN Try.underlying26 rfl ti_26 (hAp.get rfl) (hx390.ext hT.chg)) fun _ _ e => ⟨_, e, Chg.refl _ _, fun _ => Eq.refl _⟩
        · intro a w hT
          have hAp := hT.ag hA374 [] trivial (by kernel_rfl)
          have e392 : a.tmps.getD 70 undef = .agg #[.int .i64 x_352_Kind, .string (Bs x_352_Name), .string (Bs x_352_Text), Sl.v x_352_Attrs, Sl.v x_352_Kids] := hT.vals 0 rfl 70 rfl
          have hAp := hAp.add e392
          have e393 : a.tmps.getD 75 undef = .agg #[.int .i64 x_389_Kind, .string (Bs x_389_Name), .string (Bs x_389_Text), Sl.v x_389_Attrs, Sl.v x_389_Kids] := hT.vals 5 rfl 75 rfl
          have hAp := hAp.add e393
          exact opk_callX hAp rfl (r_call (args := #[.agg #[.int .i64 x_352_Kind, .string (Bs x_352_Name), .string (Bs x_352_Text), Sl.v x_352_Attrs, Sl.v x_352_Kids], .agg #[.int .i64 x_389_Kind, .string (Bs x_389_Name), .string (Bs x_389_Text), Sl.v x_389_Attrs, Sl.v x_389_Kids]]) Try.func25 (by decide) rfl (map_arr (ml_cons (hAp.get rfl) (ml_cons (hAp.get rfl) ml_nil))) rfl) (hc395 w hT.chg) fun _ _ _ _ e hR => ⟨_, e, hR.1, fun _ => hR.2⟩
        · intro a w hT
          have hAp := hT.ag hA374 [] trivial (by kernel_rfl)
          have e397 : a.tmps.getD 76 undef = .bool r_394 := hT.vals 6 rfl 76 rfl
          have hAp := hAp.add e397
          exact opk_val hAp rfl (r_not (hAp.get rfl)) fun _ _ e => ⟨_, e, Chg.refl _ _, fun _ => Eq.refl _⟩
        · intro a398 w399 hE400 hag401 hv402
          have hA398 := hag401 [(3, .pointer (some ⟨B_11, 0, none⟩)), (63, Sl.v a_1_Kids), (64, .int .i64 (a_1_Kids.n : Int)), (65, .int .i64 x_252)] ⟨rfl, rfl, rfl, rfl, trivial⟩ (by kernel_rfl)
          have e403 : a398.tmps.getD 77 undef = .bool (!r_394) := hv402 7 rfl 77 rfl
          have hA404 := hA398.add e403
          have hB405 := hB377.ext hE400
          have hB406 := hB378.ext hE400
          have hC407 : Chg [] w375 w399 := hE400
          refine PR_end (by kernel_rfl) ?_
          have hA408 := hA404.keep [(3, .pointer (some ⟨B_11, 0, none⟩)), (63, Sl.v a_1_Kids), (64, .int .i64 (a_1_Kids.n : Int)), (65, .int .i64 x_252), (77, .bool (!r_394))] ⟨rfl, rfl, rfl, rfl, rfl, trivial⟩
          refine then_normal ?_
          refine wp_cond_split (hA408.get rfl) (fun hc => ?_) (fun hc => ?_)
          · have ht409 := ht396.1 (b_not_t hc)
            clear hc
            refine wp_seq ?_
            refine wp_region_lit ?_
            refine sq (opk_val hA408 rfl (r_assign rfl) fun a411 hA411 _ => ?_)
            refine sq_end ?_
            have hA412 := hA411.keep [(4, .bool false)] ⟨rfl, trivial⟩
            refine then_normal ?_
            refine wp_ret ?_
            refine block_ret ?_
            refine then_ret ?_
            refine then_ret ?_
            refine block_ret ?_
            refine then_ret ?_
            have ht413 := ht409 w399    hC407
            exact res_all (vs := [.bool false]) rfl hA412 ⟨res_of_tmp hA412 rfl, trivial⟩ ht413
          · have ht410 := ht396.2 (b_not_f hc)
            clear hc
            refine wp_skip ?_
            refine block_normal ?_
            refine then_normal ?_
            refine wp_region_lit ?_
            obtain ⟨hS415, ht416⟩ := ht410
            refine sq (opk_val hA408 rfl (r_addI (hA408.get rfl) rfl hS415) fun a414 hA414 _ => ?_)
            refine sq (opk_val hA414 rfl (r_move (hA414.get rfl)) fun a417 hA417 _ => ?_)
            refine sq_end ?_
            have hA418 := hA417.keep [(3, .pointer (some ⟨B_11, 0, none⟩)), (63, Sl.v a_1_Kids), (64, .int .i64 (a_1_Kids.n : Int)), (65, .int .i64 (x_252 + 1))] ⟨rfl, rfl, rfl, rfl, trivial⟩
            have ht419 := ht416 w399    hC407
            have hA420 := hA418.keep [(3, .pointer (some ⟨B_11, 0, none⟩)), (63, Sl.v a_1_Kids), (64, .int .i64 (a_1_Kids.n : Int)), (65, .int .i64 (x_252 + 1))] ⟨rfl, rfl, rfl, rfl, trivial⟩
            exact then_normal ⟨(x_252 + 1, w399), ⟨hA420, hB405, rfl, ht419.1⟩, ht419.2⟩
      · have ht344 := ht339.2 (of_decide_eq_false hc)
        clear hc
        refine wp_exit ?_
        refine then_exit ?_
        refine then_exit ?_
        refine block_hit ?_
        have hA421 := hA342.keep [] trivial
        refine then_normal ?_
        refine wp_seq ?_
        refine wp_region_lit ?_
        refine sq (opk_val hA421 rfl (r_assign rfl) fun a422 hA422 _ => ?_)
        refine sq_end ?_
        have hA423 := hA422.keep [(4, .bool true)] ⟨rfl, trivial⟩
        refine then_normal ?_
        refine wp_ret ?_
        exact res_all (vs := [.bool true]) rfl hA423 ⟨res_of_tmp hA423 rfl, trivial⟩ ht344

/-- The condition of topiary/topiaryref05.Attr. -/
def ref05_Attr.vc (l_1 : Sl) (name_2 : Str) (R : Value → World → Prop) (w : World) : Prop :=
∃ (J_10 : Int → World → Prop) (mu_11 : Int → World → Nat),
J_10 0 w ∧
(∀ (i_8 : Int) (w9 : World), J_10 i_8 w9 →
((i_8 < (l_1.n : Int)) →
((0 : Int) ≤ i_8 ∧ i_8 < (l_1.n : Int)) ∧ ∃ p_72 : Addr, l_1.a = some p_72 ∧
∃ (x_79 : Str), (w9.cell? ((p_72.add (i_8.toNat * 2)).add 0) = some (.string (Bs x_79))) ∧
((x_79 = name_2) →
((0 : Int) ≤ i_8 ∧ i_8 < (l_1.n : Int)) ∧ ∃ p_89 : Addr, l_1.a = some p_89 ∧
∃ (x_96 : Str), (w9.cell? ((p_89.add (i_8.toNat * 2)).add 1) = some (.string (Bs x_96))) ∧
R (.tuple #[.string (Bs x_96), .bool true]) w9) ∧
((¬ (x_79 = name_2)) →
(I64 (i_8 + 1)) ∧
J_10 (i_8 + 1) w9 ∧ mu_11 (i_8 + 1) w9 < mu_11 i_8 w9)) ∧
((¬ (i_8 < (l_1.n : Int))) →
R (.tuple #[.string (Bs ([] : Str)), .bool false]) w9))
set_option maxHeartbeats 1000000 in
set_option maxRecDepth 10000 in
theorem ref05_Attr.ok (l_1 : Sl) (name_2 : Str) {R : Value → World → Prop} {w : World} (ht0 : ref05_Attr.vc l_1 name_2 R w) : Calls Try.prog 26 #[Sl.v l_1, .string (Bs name_2)] w (Ret R) := by
  refine enter [Sl.v l_1, .string (Bs name_2)] Try.func26 rfl Try.ntmps26 rfl ?_
  intro a0 hA0
  unfold ref05_Attr.vc at ht0
  refine wp_seq ?_
  refine wp_region_lit ?_
  refine sq (opk_val hA0 rfl (r_assign rfl) fun a3 hA3 _ => ?_)
  refine sq (opk_val hA3 rfl (r_assign rfl) fun a4 hA4 _ => ?_)
  refine sq_end ?_
  have hA5 := hA4.keep [(0, Sl.v l_1), (1, .string (Bs name_2))] ⟨rfl, rfl, trivial⟩
  refine then_normal ?_
  refine wp_seq ?_
  refine wp_seq ?_
  refine wp_region_lit ?_
  refine sq (opk_val hA5 rfl (r_assign rfl) fun a6 hA6 _ => ?_)
  refine sq_end ?_
  have hA7 := hA6.keep [(0, Sl.v l_1), (1, .string (Bs name_2)), (6, .int .i64 0)] ⟨rfl, rfl, rfl, trivial⟩
  refine then_normal ?_
  refine wp_block ?_
  obtain ⟨J_10, mu_11, h060, ht59⟩ := ht0
  refine wp_loop_st (σ := Int × World) (fun s a w => Ag 25 a [(0, Sl.v l_1), (1, .string (Bs name_2)), (6, .int .i64 s.1)] ∧ w = s.2 ∧ J_10 s.1 s.2) (fun s => mu_11 s.1 s.2) (0, w) ⟨hA7.keep [(0, Sl.v l_1), (1, .string (Bs name_2)), (6, .int .i64 0)] ⟨rfl, rfl, rfl, trivial⟩, rfl, h060⟩ ?_
  rintro ⟨i_8, w9⟩ a58 w_ ⟨hA58, hw_, hJ62⟩
  have hw_ : w9 = w_ := hw_.symm
  subst hw_
  have ht61 := ht59 i_8 _ hJ62
  refine wp_seq ?_
  refine wp_seq ?_
  refine wp_region_lit ?_
  refine sq (opk_val hA58 rfl (r_move (hA58.get rfl)) fun a63 hA63 _ => ?_)
  refine sq (opk_val hA63 rfl (r_move (hA63.get rfl)) fun a64 hA64 _ => ?_)
  refine sq (opk_val hA64 rfl (r_len (hA64.get rfl) Try.underlying23) fun a65 hA65 _ => ?_)
  refine sq (opk_val hA65 rfl (r_lss (hA65.get rfl) (hA65.get rfl)) fun a66 hA66 _ => ?_)
  refine sq_end ?_
  have hA67 := hA66.keep [(0, Sl.v l_1), (1, .string (Bs name_2)), (6, .int .i64 i_8), (10, .bool (decide (i_8 < (l_1.n : Int))))] ⟨rfl, rfl, rfl, rfl, trivial⟩
  refine then_normal ?_
  refine wp_cond_split (hA67.get rfl) (fun hc => ?_) (fun hc => ?_)
  · have ht68 := ht61.1 (of_decide_eq_true hc)
    clear hc
    refine wp_skip ?_
    refine then_normal ?_
    refine wp_seq ?_
    refine wp_block ?_
    refine wp_seq ?_
    refine wp_region_lit ?_
    refine sq (opk_val hA67 rfl (r_move (hA67.get rfl)) fun a70 hA70 _ => ?_)
    refine sq (opk_val hA70 rfl (r_move (hA70.get rfl)) fun a71 hA71 _ => ?_)
    obtain ⟨hb73, p_72, hp74, ht75⟩ := ht68
    refine sq (opk_val hA71 rfl (r_indexAddr (hA71.get rfl) (hA71.get rfl) Try.underlying23 ti_33 hb73 hp74) fun a76 hA76 _ => ?_)
    refine sq (opk_val hA76 rfl (r_fieldAddr (hA76.get rfl) Try.underlying33 rfl ti_9 (by decide)) fun a77 hA77 _ => ?_)
    obtain ⟨x_79, hx80, ht81⟩ := ht75
    refine sq (opk_val hA77 rfl (r_load1 Try.underlying9 rfl (hA77.get rfl) hx80) fun a78 hA78 _ => ?_)
    refine sq (opk_val hA78 rfl (r_move (hA78.get rfl)) fun a82 hA82 _ => ?_)
    refine sq (opk_val hA82 rfl (r_seql (hA82.get rfl) (hA82.get rfl)) fun a83 hA83 _ => ?_)
    refine sq_end ?_
    have hA84 := hA83.keep [(0, Sl.v l_1), (1, .string (Bs name_2)), (6, .int .i64 i_8), (19, .bool (decide (x_79 = name_2)))] ⟨rfl, rfl, rfl, rfl, trivial⟩
    refine then_normal ?_
    refine wp_cond_split (hA84.get rfl) (fun hc => ?_) (fun hc => ?_)
    · have ht85 := ht81.1 (of_decide_eq_true hc)
      clear hc
      refine wp_seq ?_
      refine wp_region_lit ?_
      refine sq (opk_val hA84 rfl (r_move (hA84.get rfl)) fun a87 hA87 _ => ?_)
      refine sq (opk_val hA87 rfl (r_move (hA87.get rfl)) fun a88 hA88 _ => ?_)
      obtain ⟨hb90, p_89, hp91, ht92⟩ := ht85
      refine sq (opk_val hA88 rfl (r_indexAddr (hA88.get rfl) (hA88.get rfl) Try.underlying23 ti_33 hb90 hp91) fun a93 hA93 _ => ?_)
      refine sq (opk_val hA93 rfl (r_fieldAddr (hA93.get rfl) Try.underlying33 rfl ti_9 (by decide)) fun a94 hA94 _ => ?_)
      obtain ⟨x_96, hx97, ht98⟩ := ht92
      refine sq (opk_val hA94 rfl (r_load1 Try.underlying9 rfl (hA94.get rfl) hx97) fun a95 hA95 _ => ?_)
      refine sq (opk_val hA95 rfl (r_assign (hA95.get rfl)) fun a99 hA99 _ => ?_)
      refine sq (opk_val hA99 rfl (r_assign rfl) fun a100 hA100 _ => ?_)
      refine sq_end ?_
      have hA101 := hA100.keep [(4, .string (Bs x_96)), (5, .bool true)] ⟨rfl, rfl, trivial⟩
      refine then_normal ?_
      refine wp_ret ?_
      refine block_ret ?_
      refine then_ret ?_
      refine then_ret ?_
      refine block_ret ?_
      refine then_ret ?_
      exact res_all (vs := [.string (Bs x_96), .bool true]) rfl hA101 ⟨res_of_tmp hA101 rfl, res_of_tmp hA101 rfl, trivial⟩ ht98
    · have ht86 := ht81.2 (of_decide_eq_false hc)
      clear hc
      refine wp_skip ?_
      refine block_normal ?_
      refine then_normal ?_
      refine wp_region_lit ?_
      refine sq (opk_val hA84 rfl (r_move (hA84.get rfl)) fun a102 hA102 _ => ?_)
      obtain ⟨hS104, ht105⟩ := ht86
      refine sq (opk_val hA102 rfl (r_addI (hA102.get rfl) rfl hS104) fun a103 hA103 _ => ?_)
      refine sq (opk_val hA103 rfl (r_assign (hA103.get rfl)) fun a106 hA106 _ => ?_)
      refine sq_end ?_
      have hA107 := hA106.keep [(0, Sl.v l_1), (1, .string (Bs name_2)), (6, .int .i64 (i_8 + 1))] ⟨rfl, rfl, rfl, trivial⟩
      have hA108 := hA107.keep [(0, Sl.v l_1), (1, .string (Bs name_2)), (6, .int .i64 (i_8 + 1))] ⟨rfl, rfl, rfl, trivial⟩
      exact then_normal ⟨(i_8 + 1, w9), ⟨hA108, rfl, ht105.1⟩, ht105.2⟩
  · have ht69 := ht61.2 (of_decide_eq_false hc)
    clear hc
    refine wp_exit ?_
    refine then_exit ?_
    refine then_exit ?_
    refine block_hit ?_
    have hA109 := hA67.keep [] trivial
    refine then_normal ?_
    refine wp_seq ?_
    refine wp_region_lit ?_
    refine sq (opk_val hA109 rfl (r_assign rfl) fun a110 hA110 _ => ?_)
    refine sq (opk_val hA110 rfl (r_assign rfl) fun a111 hA111 _ => ?_)
    refine sq_end ?_
    have hA112 := hA111.keep [(4, .string (Bs ([] : Str))), (5, .bool false)] ⟨rfl, rfl, trivial⟩
    refine then_normal ?_
    refine wp_ret ?_
    exact res_all (vs := [.string (Bs ([] : Str)), .bool false]) rfl hA112 ⟨res_of_tmp hA112 rfl, res_of_tmp hA112 rfl, trivial⟩ ht69

/-- The condition of topiary/topiaryref05.Check. -/
def ref05_Check.vc (t_1_Kind : Int) (t_1_Name : Str) (t_1_Text : Str) (t_1_Attrs : Sl) (t_1_Kids : Sl) (R : Value → World → Prop) (w : World) : Prop :=
∀ (w3 : World) (B_2 : Nat), New w B_2 w3 → Chg [] w w3 →
∃ (r_18 : Int), (((t_1_Kind = 1)) → Calls Try.prog 29 #[.agg #[.int .i64 t_1_Kind, .string (Bs t_1_Name), .string (Bs t_1_Text), Sl.v t_1_Attrs, Sl.v t_1_Kids]] w3 (Ret fun v w' => Ext w3 w' ∧ v = .int .i64 r_18)) ∧
(∀ w20 : World, Ext w3 w20 →
∃ (r_31 : Int), ((((t_1_Kind = 1) ∧ (r_18 ≤ 300))) → Calls Try.prog 30 #[.agg #[.int .i64 t_1_Kind, .string (Bs t_1_Name), .string (Bs t_1_Text), Sl.v t_1_Attrs, Sl.v t_1_Kids]] w20 (Ret fun v w' => Ext w20 w' ∧ v = .int .i64 r_31)) ∧
(∀ w33 : World, Ext w20 w33 →
∃ (r_44 : Bool), (((((t_1_Kind = 1) ∧ (r_18 ≤ 300)) ∧ (r_31 ≤ 60))) → Calls Try.prog 43 #[.agg #[.int .i64 t_1_Kind, .string (Bs t_1_Name), .string (Bs t_1_Text), Sl.v t_1_Attrs, Sl.v t_1_Kids], .bool true, .bool false] w33 (Ret fun v w' => Ext w33 w' ∧ v = .bool r_44)) ∧
(∀ w46 : World, Ext w33 w46 →
R (.bool ((((decide (t_1_Kind = 1)) && (decide (r_18 ≤ 300))) && (decide (r_31 ≤ 60))) && r_44)) w46)))
set_option maxHeartbeats 1000000 in
set_option maxRecDepth 10000 in
theorem ref05_Check.ok (t_1_Kind : Int) (t_1_Name : Str) (t_1_Text : Str) (t_1_Attrs : Sl) (t_1_Kids : Sl) {R : Value → World → Prop} {w : World} (ht0 : ref05_Check.vc t_1_Kind t_1_Name t_1_Text t_1_Attrs t_1_Kids R w) : Calls Try.prog 27 #[.agg #[.int .i64 t_1_Kind, .string (Bs t_1_Name), .string (Bs t_1_Text), Sl.v t_1_Attrs, Sl.v t_1_Kids]] w (Ret R) := by
  refine enter [.agg #[.int .i64 t_1_Kind, .string (Bs t_1_Name), .string (Bs t_1_Text), Sl.v t_1_Attrs, Sl.v t_1_Kids]] Try.func27 rfl Try.ntmps27 rfl ?_
  intro a0 hA0
  unfold ref05_Check.vc at ht0
  refine wp_seq ?_
  refine wp_region_lit ?_
  refine sq (opk_new (fun B => .pointer (some ⟨B, 0, none⟩)) hA0 rfl (r_box (cs := [.int .i64 t_1_Kind, .string (Bs t_1_Name), .string (Bs t_1_Text), Sl.v t_1_Attrs, Sl.v t_1_Kids]) (hA0.get rfl) rfl) fun a4 w3 B_2 hE5 hN6 hB7 hA4 _ => ?_)
  have hN8 : New w B_2 w3 := hN6
  have hC9 : Chg [] w w3 := hE5
  refine sq (opk_val hA4 rfl (r_assign rfl) fun a10 hA10 _ => ?_)
  refine sq_end ?_
  have hA11 := hA10.keep [(1, .pointer (some ⟨B_2, 0, none⟩))] ⟨rfl, trivial⟩
  refine then_normal ?_
  refine wp_seq ?_
  refine wp_region_lit ?_
  refine sq (opk_val hA11 rfl (r_fieldAddr (hA11.get rfl) Try.underlying26 rfl ti_3 (by decide)) fun a12 hA12 _ => ?_)
  refine sq (opk_val hA12 rfl (r_load1 Try.underlying3 rfl (hA12.get rfl) (hB7.cell 0 _ rfl)) fun a13 hA13 _ => ?_)
  refine sq (opk_val hA13 rfl (r_eql (hA13.get rfl) rfl) fun a14 hA14 _ => ?_)
  refine sq (opk_val hA14 rfl (r_move (hA14.get rfl)) fun a15 hA15 _ => ?_)
  refine sq (opk_gval hA15 rfl rfl (g := true) (e := (decide (t_1_Kind = 1))) rfl (fun hg => r_loadN (cs := [.int .i64 t_1_Kind, .string (Bs t_1_Name), .string (Bs t_1_Text), Sl.v t_1_Attrs, Sl.v t_1_Kids]) Try.underlying26 rfl ti_26 (hA15.get rfl) (hB7.part 0 _ rfl)) fun a16 hA16 _ => ?_)
  have ht17 := ht0 w3 B_2 hN8  hC9
  obtain ⟨r_18, hc22, ht21⟩ := ht17
  refine sq (opk_gcall hA16 rfl rfl (g := true) (e := (decide (t_1_Kind = 1))) rfl (fun hg => r_call (args := #[.agg #[.int .i64 t_1_Kind, .string (Bs t_1_Name), .string (Bs t_1_Text), Sl.v t_1_Attrs, Sl.v t_1_Kids]]) Try.func29 (by decide) rfl (map_arr (ml_cons (cv_get (hA16.get rfl) hg) ml_nil)) rfl) (fun hg => hc22 (of_decide_eq_true (g_t hg))) fun a19 w20 hA19 _ hE23 => ?_)
  have hB24 := hB7.ext hE23
  have hC25 : Chg [] w3 w20 := hE23
  have ht26 := ht21 w20 hE23
  refine sq (opk_gval hA19 rfl rfl (g := true) (e := (decide (t_1_Kind = 1))) rfl (fun hg => r_leq (cv_get (hA19.get rfl) hg) rfl) fun a27 hA27 _ => ?_)
  refine sq (opk_val hA27 rfl (r_pick_and (g := (true && ((decide (t_1_Kind = 1)) == true))) (hA27.get rfl) (hA27.get rfl) (fun he => g_mkt rfl he)) fun a28 hA28 _ => ?_)
  refine sq (opk_val hA28 rfl (r_move (hA28.get rfl)) fun a29 hA29 _ => ?_)
  refine sq (opk_gval hA29 rfl rfl (g := true) (e := ((decide (t_1_Kind = 1)) && (decide (r_18 ≤ 300)))) rfl (fun hg => r_loadN (cs := [.int .i64 t_1_Kind, .string (Bs t_1_Name), .string (Bs t_1_Text), Sl.v t_1_Attrs, Sl.v t_1_Kids]) Try.underlying26 rfl ti_26 (hA29.get rfl) (hB24.part 0 _ rfl)) fun a30 hA30 _ => ?_)
  obtain ⟨r_31, hc35, ht34⟩ := ht26
  refine sq (opk_gcall hA30 rfl rfl (g := true) (e := ((decide (t_1_Kind = 1)) && (decide (r_18 ≤ 300)))) rfl (fun hg => r_call (args := #[.agg #[.int .i64 t_1_Kind, .string (Bs t_1_Name), .string (Bs t_1_Text), Sl.v t_1_Attrs, Sl.v t_1_Kids]]) Try.func30 (by decide) rfl (map_arr (ml_cons (cv_get (hA30.get rfl) hg) ml_nil)) rfl) (fun hg => hc35 ⟨(of_decide_eq_true (b_and_t (g_t hg)).1), (of_decide_eq_true (b_and_t (g_t hg)).2)⟩) fun a32 w33 hA32 _ hE36 => ?_)
  have hB37 := hB24.ext hE36
  have hC38 : Chg [] w20 w33 := hE36
  have ht39 := ht34 w33 hE36
  refine sq (opk_gval hA32 rfl rfl (g := true) (e := ((decide (t_1_Kind = 1)) && (decide (r_18 ≤ 300)))) rfl (fun hg => r_leq (cv_get (hA32.get rfl) hg) rfl) fun a40 hA40 _ => ?_)
  refine sq (opk_val hA40 rfl (r_pick_and (g := (true && (((decide (t_1_Kind = 1)) && (decide (r_18 ≤ 300))) == true))) (hA40.get rfl) (hA40.get rfl) (fun he => g_mkt rfl he)) fun a41 hA41 _ => ?_)
  refine sq (opk_val hA41 rfl (r_move (hA41.get rfl)) fun a42 hA42 _ => ?_)
  refine sq (opk_gval hA42 rfl rfl (g := true) (e := (((decide (t_1_Kind = 1)) && (decide (r_18 ≤ 300))) && (decide (r_31 ≤ 60)))) rfl (fun hg => r_loadN (cs := [.int .i64 t_1_Kind, .string (Bs t_1_Name), .string (Bs t_1_Text), Sl.v t_1_Attrs, Sl.v t_1_Kids]) Try.underlying26 rfl ti_26 (hA42.get rfl) (hB37.part 0 _ rfl)) fun a43 hA43 _ => ?_)
  obtain ⟨r_44, hc48, ht47⟩ := ht39
  refine sq (opk_gcall hA43 rfl rfl (g := true) (e := (((decide (t_1_Kind = 1)) && (decide (r_18 ≤ 300))) && (decide (r_31 ≤ 60)))) rfl (fun hg => r_call (args := #[.agg #[.int .i64 t_1_Kind, .string (Bs t_1_Name), .string (Bs t_1_Text), Sl.v t_1_Attrs, Sl.v t_1_Kids], .bool true, .bool false]) Try.func43 (by decide) rfl (map_arr (ml_cons (cv_get (hA43.get rfl) hg) (ml_cons rfl (ml_cons rfl ml_nil)))) rfl) (fun hg => hc48 ⟨⟨(of_decide_eq_true (b_and_t (b_and_t (g_t hg)).1).1), (of_decide_eq_true (b_and_t (b_and_t (g_t hg)).1).2)⟩, (of_decide_eq_true (b_and_t (g_t hg)).2)⟩) fun a45 w46 hA45 _ hE49 => ?_)
  have hB50 := hB37.ext hE49
  have hC51 : Chg [] w33 w46 := hE49
  have ht52 := ht47 w46 hE49
  refine sq (opk_val hA45 rfl (r_pick_and (g := (true && ((((decide (t_1_Kind = 1)) && (decide (r_18 ≤ 300))) && (decide (r_31 ≤ 60))) == true))) (hA45.get rfl) (hA45.get rfl) (fun he => g_mkt rfl he)) fun a53 hA53 _ => ?_)
  refine sq (opk_val hA53 rfl (r_assign (hA53.get rfl)) fun a54 hA54 _ => ?_)
  refine sq_end ?_
  have hA55 := hA54.keep [(2, .bool ((((decide (t_1_Kind = 1)) && (decide (r_18 ≤ 300))) && (decide (r_31 ≤ 60))) && r_44))] ⟨rfl, trivial⟩
  refine then_normal ?_
  refine wp_ret ?_
  exact res_all (vs := [.bool ((((decide (t_1_Kind = 1)) && (decide (r_18 ≤ 300))) && (decide (r_31 ≤ 60))) && r_44)]) rfl hA55 ⟨res_of_tmp hA55 rfl, trivial⟩ ht52

end Go.Proofs.Ytpacegmmbabhjaa
