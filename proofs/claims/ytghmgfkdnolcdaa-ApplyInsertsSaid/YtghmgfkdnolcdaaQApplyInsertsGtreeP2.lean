/-
  PRINTED BY PROGRAM: for each function its condition (vc), and that this suffices (ok).
-/
import Derived.Test.YtghmgfkdnolcdaaQApplyInsertsGT
namespace Go.Proofs.Ytghmgfkdnolcdaa
open Go.RowKit
set_option linter.unusedVariables false

/-- The condition of topiary/tree.kids. -/
def tree_kids.vc (t_1_Kind : Int) (t_1_Name : Str) (t_1_Text : Str) (t_1_Attrs : Sl) (t_1_Kids : Sl) (R : Value → World → Prop) (w : World) : Prop :=
∀ (w3 : World) (B_2 : Nat), New w B_2 w3 → Chg [] w w3 →
∃ (J_19 : Int → World → Prop) (mu_20 : Int → World → Nat),
J_19 0 w3 ∧
(∀ (x_17 : Int) (w18 : World), J_19 x_17 w18 →
((x_17 < (t_1_Kids.n : Int)) →
((0 : Int) ≤ x_17 ∧ x_17 < (t_1_Kids.n : Int)) ∧ ∃ p_99 : Addr, t_1_Kids.a = some p_99 ∧
∃ (x_105_Kind : Int) (x_105_Name : Str) (x_105_Text : Str) (x_105_Attrs : Sl) (x_105_Kids : Sl), (Cells w18 (p_99.add (x_17.toNat * 5)) [.int .i64 x_105_Kind, .string (Bs x_105_Name), .string (Bs x_105_Text), Sl.v x_105_Attrs, Sl.v x_105_Kids]) ∧
∀ (w118 : World) (B_108 : Nat), New w18 B_108 w118 → Chg [] w18 w118 →
CallK Try.prog 83 #[.agg #[.int .i64 x_105_Kind, .string (Bs x_105_Name), .string (Bs x_105_Text), Sl.v x_105_Attrs, Sl.v x_105_Kids]] w118 [B_2, B_108] (fun v w131 => ∃ (r_129 : Bool), v = .bool r_129 ∧
(((r_129 = false) ∨ ((x_105_Kind = 5) ∧ (t_1_Kind ≠ 1))) →
R (.bool false) w131) ∧
(((r_129 = true) ∧ ((¬ (x_105_Kind = 5)) ∨ (¬ (t_1_Kind ≠ 1)))) →
(I64 (x_17 + 1)) ∧
J_19 (x_17 + 1) w131 ∧ mu_20 (x_17 + 1) w131 < mu_20 x_17 w18))) ∧
((¬ (x_17 < (t_1_Kids.n : Int))) →
R (.bool true) w18))
set_option maxHeartbeats 1000000 in
set_option maxRecDepth 10000 in
theorem tree_kids.ok (t_1_Kind : Int) (t_1_Name : Str) (t_1_Text : Str) (t_1_Attrs : Sl) (t_1_Kids : Sl) {R : Value → World → Prop} {w : World} (ht0 : tree_kids.vc t_1_Kind t_1_Name t_1_Text t_1_Attrs t_1_Kids R w) : Calls Try.prog 63 #[.agg #[.int .i64 t_1_Kind, .string (Bs t_1_Name), .string (Bs t_1_Text), Sl.v t_1_Attrs, Sl.v t_1_Kids]] w (Ret R) := by
  refine enter [.agg #[.int .i64 t_1_Kind, .string (Bs t_1_Name), .string (Bs t_1_Text), Sl.v t_1_Attrs, Sl.v t_1_Kids]] Try.func63 rfl Try.ntmps63 rfl ?_
  intro a0 hA0
  unfold tree_kids.vc at ht0
  refine wp_seq ?_
  refine wp_region_lit ?_
  refine sq (opk_new (fun B => .pointer (some ⟨B, 0, none⟩)) hA0 rfl (r_box (cs := [.int .i64 t_1_Kind, .string (Bs t_1_Name), .string (Bs t_1_Text), Sl.v t_1_Attrs, Sl.v t_1_Kids]) (hA0.get rfl) rfl) fun a4 w3 B_2 hE5 hN6 hB7 hA4 _ => ?_)
  have hN8 : New w B_2 w3 := hN6
  have hC9 : Chg [] w w3 := hE5
  refine sq (opk_val hA4 rfl (r_assign rfl) fun a10 hA10 _ => ?_)
  refine sq_end ?_
  have hA11 := hA10.keep [(1, .pointer (some (⟨B_2, 0, none⟩ : Addr)))] ⟨rfl, trivial⟩
  refine then_normal ?_
  refine wp_seq ?_
  refine wp_seq ?_
  refine wp_region_lit ?_
  refine sq (opk_val hA11 rfl (r_fieldAddr (hA11.get rfl) Try.underlying29 rfl ti_27 (by decide)) fun a12 hA12 _ => ?_)
  refine sq (opk_val hA12 rfl (r_load1 Try.underlying27 rfl (hA12.get rfl) (hB7.cell 4 _ rfl)) fun a13 hA13 _ => ?_)
  refine sq (opk_val hA13 rfl (r_len (hA13.get rfl) Try.underlying27) fun a14 hA14 _ => ?_)
  refine sq (opk_val hA14 rfl (r_move rfl) fun a15 hA15 _ => ?_)
  refine sq_end ?_
  have hA16 := hA15.keep [(1, .pointer (some (⟨B_2, 0, none⟩ : Addr))), (6, Sl.v t_1_Kids), (7, .int .i64 (t_1_Kids.n : Int)), (8, .int .i64 0)] ⟨rfl, rfl, rfl, rfl, trivial⟩
  refine then_normal ?_
  refine wp_block ?_
  have ht88 := ht0 w3 B_2 hN8  hC9
  obtain ⟨J_19, mu_20, h092, ht91⟩ := ht88
  refine wp_loop_st (σ := Int × World) (fun s a w => Ag 26 a [(1, .pointer (some (⟨B_2, 0, none⟩ : Addr))), (6, Sl.v t_1_Kids), (7, .int .i64 (t_1_Kids.n : Int)), (8, .int .i64 s.1)] ∧ Box w B_2 29 [.int .i64 t_1_Kind, .string (Bs t_1_Name), .string (Bs t_1_Text), Sl.v t_1_Attrs, Sl.v t_1_Kids] ∧ w = s.2 ∧ J_19 s.1 s.2) (fun s => mu_20 s.1 s.2) (0, w3) ⟨hA16.keep [(1, .pointer (some (⟨B_2, 0, none⟩ : Addr))), (6, Sl.v t_1_Kids), (7, .int .i64 (t_1_Kids.n : Int)), (8, .int .i64 0)] ⟨rfl, rfl, rfl, rfl, trivial⟩, hB7, rfl, h092⟩ ?_
  rintro ⟨x_17, w18⟩ a89 w_ ⟨hA89, hB90, hw_, hJ94⟩
  have hw_ : w18 = w_ := hw_.symm
  subst hw_
  have ht93 := ht91 x_17 _ hJ94
  refine wp_seq ?_
  refine wp_region_lit ?_
  refine sq (opk_val hA89 rfl (r_lss (hA89.get rfl) (hA89.get rfl)) fun a95 hA95 _ => ?_)
  refine sq_end ?_
  have hA96 := hA95.keep [(1, .pointer (some (⟨B_2, 0, none⟩ : Addr))), (6, Sl.v t_1_Kids), (7, .int .i64 (t_1_Kids.n : Int)), (8, .int .i64 x_17), (9, .bool (decide (x_17 < (t_1_Kids.n : Int))))] ⟨rfl, rfl, rfl, rfl, rfl, trivial⟩
  refine then_normal ?_
  refine wp_seq ?_
  refine wp_cond_split (hA96.get rfl) (fun hc => ?_) (fun hc => ?_)
  · have ht97 := ht93.1 (of_decide_eq_true hc)
    clear hc
    refine wp_skip ?_
    refine then_normal ?_
    refine wp_seq ?_
    refine wp_block ?_
    refine wp_seq ?_
    refine wp_region_lit ?_
    obtain ⟨hb100, p_99, hp101, ht102⟩ := ht97
    refine sq (opk_val hA96 rfl (r_indexAddr (hA96.get rfl) (hA96.get rfl) Try.underlying27 ti_29 hb100 hp101) fun a103 hA103 _ => ?_)
    obtain ⟨x_105_Kind, x_105_Name, x_105_Text, x_105_Attrs, x_105_Kids, hx106, ht107⟩ := ht102
    refine sq (opk_val hA103 rfl (r_loadN Try.underlying29 rfl ti_29 (hA103.get rfl) hx106) fun a104 hA104 _ => ?_)
    refine sq (opk_new (fun B => .pointer (some ⟨B, 0, none⟩)) hA104 rfl (r_alloc (cs := [.int .i64 0, .string (Bs ([] : Str)), .string (Bs ([] : Str)), Sl.v Sl.nil, Sl.v Sl.nil]) ti_29 rfl) fun a110 w109 B_108 hE111 hN112 hB113 hA110 _ => ?_)
    have hne114 : B_2 ≠ B_108 := Nat.ne_of_lt (Nat.lt_of_lt_of_le hB90.lt hN112.ge)
    have hN115 : New w18 B_108 w109 := hN112
    have hB116 := hB90.ext hE111
    have hC117 : Chg [] w18 w109 := hE111
    refine sq (opk_store hA110 hB113 (r_store (vs := [.int .i64 x_105_Kind, .string (Bs x_105_Name), .string (Bs x_105_Text), Sl.v x_105_Attrs, Sl.v x_105_Kids]) (hA110.get rfl) (hA110.get rfl) rfl ti_29 hB113 rfl (ones_all [.int .i64 x_105_Kind, .string (Bs x_105_Name), .string (Bs x_105_Text), Sl.v x_105_Attrs, Sl.v x_105_Kids] rfl)) fun a119 w118 hS120 hB121 hA119 => ?_)
    have hB122 : Box w118 B_108 29 [.int .i64 x_105_Kind, .string (Bs x_105_Name), .string (Bs x_105_Text), Sl.v x_105_Attrs, Sl.v x_105_Kids] := hB121
    have hB123 := hB116.keep hS120 (by simpa using hne114)
    have hC124 := hC117.storeNew hN115 hS120
    have hN125 := hN115.up hS120.size
    refine sq_end ?_
    have hA126 := hA119.keep [(1, .pointer (some (⟨B_2, 0, none⟩ : Addr))), (4, .pointer (some (⟨B_108, 0, none⟩ : Addr))), (6, Sl.v t_1_Kids), (7, .int .i64 (t_1_Kids.n : Int)), (8, .int .i64 x_17)] ⟨rfl, rfl, rfl, rfl, rfl, trivial⟩
    refine then_normal ?_
    refine wp_seq ?_
    refine wp_region_lit ?_
    refine sq (opk_val hA126 rfl (r_loadN (cs := [.int .i64 x_105_Kind, .string (Bs x_105_Name), .string (Bs x_105_Text), Sl.v x_105_Attrs, Sl.v x_105_Kids]) Try.underlying29 rfl ti_29 (hA126.get rfl) (hB122.part 0 _ rfl)) fun a127 hA127 _ => ?_)
    have ht128 := ht107 w118 B_108 hN125  hC124
    refine sq (opk_call hA127 rfl (r_call (args := #[.agg #[.int .i64 x_105_Kind, .string (Bs x_105_Name), .string (Bs x_105_Text), Sl.v x_105_Attrs, Sl.v x_105_Kids]]) Try.func83 (by decide) rfl (map_arr (ml_cons (hA127.get rfl) ml_nil)) rfl) ht128 fun a130 v136 w131 hA130 _ hn133 hz134 hK135 => ?_)
    obtain ⟨r_129, rfl, ht132⟩ := hK135
    have hB137 := hB123.kept hn133 (.head _)
    have hB138 := hB122.kept hn133 (.tail _ (.head _))
    refine sq (opk_val hA130 rfl (r_not (hA130.get rfl)) fun a139 hA139 _ => ?_)
    refine sq (opk_val hA139 rfl (r_move (hA139.get rfl)) fun a140 hA140 _ => ?_)
    refine sq (opk_gval hA140 rfl rfl (g := true) (e := (!r_129)) rfl (fun hg => r_fieldAddr (hA140.get rfl) Try.underlying29 rfl ti_3 (by decide)) fun a141 hA141 _ => ?_)
    refine sq (opk_gval hA141 rfl rfl (g := true) (e := (!r_129)) rfl (fun hg => r_load1 Try.underlying3 rfl (cv_get (hA141.get rfl) hg) (hB138.cell 0 _ rfl)) fun a142 hA142 _ => ?_)
    refine sq (opk_gval hA142 rfl rfl (g := true) (e := (!r_129)) rfl (fun hg => r_eql (cv_get (hA142.get rfl) hg) rfl) fun a143 hA143 _ => ?_)
    refine sq (opk_gval hA143 rfl rfl (g := true) (e := (!r_129)) rfl (fun hg => r_move (cv_get (hA143.get rfl) hg)) fun a144 hA144 _ => ?_)
    refine sq (opk_gval hA144 rfl rfl (g := (true && ((!r_129) == false))) (e := (decide (x_105_Kind = 5))) rfl (fun hg => r_fieldAddr (hA144.get rfl) Try.underlying29 rfl ti_3 (by decide)) fun a145 hA145 _ => ?_)
    refine sq (opk_gval hA145 rfl rfl (g := (true && ((!r_129) == false))) (e := (decide (x_105_Kind = 5))) rfl (fun hg => r_load1 Try.underlying3 rfl (cv_get (hA145.get rfl) hg) (hB137.cell 0 _ rfl)) fun a146 hA146 _ => ?_)
    refine sq (opk_gval hA146 rfl rfl (g := (true && ((!r_129) == false))) (e := (decide (x_105_Kind = 5))) rfl (fun hg => r_neq (cv_get (hA146.get rfl) hg) rfl) fun a147 hA147 _ => ?_)
    refine sq (opk_gval hA147 rfl rfl (g := true) (e := (!r_129)) rfl (fun hg => r_pick_and (g := ((true && ((!r_129) == false)) && ((decide (x_105_Kind = 5)) == true))) (cv_get (hA147.get rfl) hg) (hA147.get rfl) (fun he => g_mkt hg he)) fun a148 hA148 _ => ?_)
    refine sq (opk_val hA148 rfl (r_pick_or (g := (true && ((!r_129) == false))) (hA148.get rfl) (hA148.get rfl) (fun he => g_mkf rfl he)) fun a149 hA149 _ => ?_)
    refine sq_end ?_
    have hA150 := hA149.keep [(1, .pointer (some (⟨B_2, 0, none⟩ : Addr))), (6, Sl.v t_1_Kids), (7, .int .i64 (t_1_Kids.n : Int)), (8, .int .i64 x_17), (24, .bool ((!r_129) || ((decide (x_105_Kind = 5)) && (decide (t_1_Kind ≠ 1)))))] ⟨rfl, rfl, rfl, rfl, rfl, trivial⟩
    refine then_normal ?_
    refine wp_cond_split (hA150.get rfl) (fun hc => ?_) (fun hc => ?_)
    · have ht151 := ht132.1 ((b_or_t hc).imp (fun h => (b_not_t h)) (fun h => ⟨(of_decide_eq_true (b_and_t h).1), (of_decide_eq_true (b_and_t h).2)⟩))
      clear hc
      refine wp_seq ?_
      refine wp_region_lit ?_
      refine sq (opk_val hA150 rfl (r_assign rfl) fun a153 hA153 _ => ?_)
      refine sq_end ?_
      have hA154 := hA153.keep [(2, .bool false)] ⟨rfl, trivial⟩
      refine then_normal ?_
      refine wp_ret ?_
      refine block_ret ?_
      refine then_ret ?_
      refine then_ret ?_
      refine block_ret ?_
      refine then_ret ?_
      exact res_all (vs := [.bool false]) rfl hA154 ⟨res_of_tmp hA154 rfl, trivial⟩ ht151
    · have ht152 := ht132.2 ⟨(b_not_f (b_or_f hc).1), ((b_and_f (b_or_f hc).2).imp (fun h => (of_decide_eq_false h)) (fun h => (of_decide_eq_false h)))⟩
      clear hc
      refine wp_skip ?_
      refine block_normal ?_
      refine then_normal ?_
      refine wp_region_lit ?_
      obtain ⟨hS156, ht157⟩ := ht152
      refine sq (opk_val hA150 rfl (r_addI (hA150.get rfl) rfl hS156) fun a155 hA155 _ => ?_)
      refine sq (opk_val hA155 rfl (r_move (hA155.get rfl)) fun a158 hA158 _ => ?_)
      refine sq_end ?_
      have hA159 := hA158.keep [(1, .pointer (some (⟨B_2, 0, none⟩ : Addr))), (6, Sl.v t_1_Kids), (7, .int .i64 (t_1_Kids.n : Int)), (8, .int .i64 (x_17 + 1))] ⟨rfl, rfl, rfl, rfl, trivial⟩
      have hA160 := hA159.keep [(1, .pointer (some (⟨B_2, 0, none⟩ : Addr))), (6, Sl.v t_1_Kids), (7, .int .i64 (t_1_Kids.n : Int)), (8, .int .i64 (x_17 + 1))] ⟨rfl, rfl, rfl, rfl, trivial⟩
      exact then_normal ⟨(x_17 + 1, w131), ⟨hA160, hB137, rfl, ht157.1⟩, ht157.2⟩
  · have ht98 := ht93.2 (of_decide_eq_false hc)
    clear hc
    refine wp_exit ?_
    refine then_exit ?_
    refine then_exit ?_
    refine block_hit ?_
    have hA161 := hA96.keep [] trivial
    refine then_normal ?_
    refine wp_seq ?_
    refine wp_region_lit ?_
    refine sq (opk_val hA161 rfl (r_assign rfl) fun a162 hA162 _ => ?_)
    refine sq_end ?_
    have hA163 := hA162.keep [(2, .bool true)] ⟨rfl, trivial⟩
    refine then_normal ?_
    refine wp_ret ?_
    exact res_all (vs := [.bool true]) rfl hA163 ⟨res_of_tmp hA163 rfl, trivial⟩ ht98

/-- The condition of topiary/tree.node. -/
def tree_node.vc (t_1_Kind : Int) (t_1_Name : Str) (t_1_Text : Str) (t_1_Attrs : Sl) (t_1_Kids : Sl) (R : Value → World → Prop) (w : World) : Prop :=
((t_1_Kind = 2) →
∀ (w3 : World) (B_2 : Nat), New w B_2 w3 → Chg [] w w3 →
CallK Try.prog 50 #[.string (Bs t_1_Name)] w3 [B_2] (fun v w23 => ∃ (r_21 : Bool), v = .bool r_21 ∧
∃ (r_38 : Bool), ((((r_21 = true) ∧ (t_1_Text = ([] : Str)))) → Calls Try.prog 92 #[Sl.v t_1_Attrs] w23 (Ret fun v w' => Ext w23 w' ∧ v = .bool r_38)) ∧
(∀ w40 : World, Ext w23 w40 →
∃ (r_50 : Bool), (((((r_21 = true) ∧ (t_1_Text = ([] : Str))) ∧ (r_38 = true))) → Calls Try.prog 63 #[.agg #[.int .i64 t_1_Kind, .string (Bs t_1_Name), .string (Bs t_1_Text), Sl.v t_1_Attrs, Sl.v t_1_Kids]] w40 (Ret fun v w' => Ext w40 w' ∧ v = .bool r_50)) ∧
(∀ w52 : World, Ext w40 w52 →
R (.bool (((r_21 && (decide (t_1_Text = ([] : Str)))) && r_38) && r_50)) w52)))) ∧
((¬ (t_1_Kind = 2)) →
(((0 < (t_1_Attrs.n : Int)) ∨ (0 < (t_1_Kids.n : Int))) →
∀ (w3 : World) (B_2 : Nat), New w B_2 w3 → Chg [] w w3 →
R (.bool false) w3) ∧
(((¬ (0 < (t_1_Attrs.n : Int))) ∧ (¬ (0 < (t_1_Kids.n : Int)))) →
((t_1_Kind = 3) →
∀ (w3 : World) (B_2 : Nat), New w B_2 w3 → Chg [] w w3 →
R (.bool (((decide (t_1_Name = ([] : Str))) && (decide (t_1_Text ≠ ([] : Str)))) && (decide ((t_1_Text.length : Int) ≤ 4096)))) w3) ∧
((¬ (t_1_Kind = 3)) →
((t_1_Kind = 4) →
∀ (w3 : World) (B_2 : Nat), New w B_2 w3 → Chg [] w w3 →
R (.bool ((decide (t_1_Name = ([] : Str))) && (decide ((t_1_Text.length : Int) ≤ 4096)))) w3) ∧
((¬ (t_1_Kind = 4)) →
((t_1_Kind = 5) →
∀ (w3 : World) (B_2 : Nat), New w B_2 w3 → Chg [] w w3 →
R (.bool ((decide (t_1_Text = ([] : Str))) && (decide ((t_1_Name.length : Int) ≤ 32)))) w3) ∧
((¬ (t_1_Kind = 5)) →
∀ (w3 : World) (B_2 : Nat), New w B_2 w3 → Chg [] w w3 →
R (.bool false) w3)))))
set_option maxHeartbeats 1000000 in
set_option maxRecDepth 10000 in
theorem tree_node.ok (t_1_Kind : Int) (t_1_Name : Str) (t_1_Text : Str) (t_1_Attrs : Sl) (t_1_Kids : Sl) {R : Value → World → Prop} {w : World} (ht0 : tree_node.vc t_1_Kind t_1_Name t_1_Text t_1_Attrs t_1_Kids R w) : Calls Try.prog 83 #[.agg #[.int .i64 t_1_Kind, .string (Bs t_1_Name), .string (Bs t_1_Text), Sl.v t_1_Attrs, Sl.v t_1_Kids]] w (Ret R) := by
  refine enter [.agg #[.int .i64 t_1_Kind, .string (Bs t_1_Name), .string (Bs t_1_Text), Sl.v t_1_Attrs, Sl.v t_1_Kids]] Try.func83 rfl Try.ntmps83 rfl ?_
  intro a0 hA0
  unfold tree_node.vc at ht0
  refine wp_seq ?_
  refine wp_region_lit ?_
  refine sq (opk_new (fun B => .pointer (some ⟨B, 0, none⟩)) hA0 rfl (r_box (cs := [.int .i64 t_1_Kind, .string (Bs t_1_Name), .string (Bs t_1_Text), Sl.v t_1_Attrs, Sl.v t_1_Kids]) (hA0.get rfl) rfl) fun a4 w3 B_2 hE5 hN6 hB7 hA4 _ => ?_)
  have hN8 : New w B_2 w3 := hN6
  have hC9 : Chg [] w w3 := hE5
  refine sq (opk_val hA4 rfl (r_assign rfl) fun a10 hA10 _ => ?_)
  refine sq_end ?_
  have hA11 := hA10.keep [(1, .pointer (some (⟨B_2, 0, none⟩ : Addr)))] ⟨rfl, trivial⟩
  refine then_normal ?_
  refine wp_seq ?_
  refine wp_seq ?_
  refine wp_region_lit ?_
  refine sq (opk_val hA11 rfl (r_fieldAddr (hA11.get rfl) Try.underlying29 rfl ti_3 (by decide)) fun a12 hA12 _ => ?_)
  refine sq (opk_val hA12 rfl (r_load1 Try.underlying3 rfl (hA12.get rfl) (hB7.cell 0 _ rfl)) fun a13 hA13 _ => ?_)
  refine sq (opk_val hA13 rfl (r_eql (hA13.get rfl) rfl) fun a14 hA14 _ => ?_)
  refine sq_end ?_
  have hA15 := hA14.keep [(1, .pointer (some (⟨B_2, 0, none⟩ : Addr))), (5, .bool (decide (t_1_Kind = 2)))] ⟨rfl, rfl, trivial⟩
  refine then_normal ?_
  refine wp_cond_split (hA15.get rfl) (fun hc => ?_) (fun hc => ?_)
  · have ht16 := ht0.1 (of_decide_eq_true hc)
    clear hc
    refine wp_seq ?_
    refine wp_region_lit ?_
    refine sq (opk_val hA15 rfl (r_fieldAddr (hA15.get rfl) Try.underlying29 rfl ti_9 (by decide)) fun a18 hA18 _ => ?_)
    refine sq (opk_val hA18 rfl (r_load1 Try.underlying9 rfl (hA18.get rfl) (hB7.cell 1 _ rfl)) fun a19 hA19 _ => ?_)
    have ht20 := ht16 w3 B_2 hN8  hC9
    refine sq (opk_call hA19 rfl (r_call (args := #[.string (Bs t_1_Name)]) Try.func50 (by decide) rfl (map_arr (ml_cons (hA19.get rfl) ml_nil)) rfl) ht20 fun a22 v28 w23 hA22 _ hn25 hz26 hK27 => ?_)
    obtain ⟨r_21, rfl, ht24⟩ := hK27
    have hB29 := hB7.kept hn25 (.head _)
    refine sq (opk_val hA22 rfl (r_move (hA22.get rfl)) fun a30 hA30 _ => ?_)
    refine sq (opk_gval hA30 rfl rfl (g := true) (e := r_21) rfl (fun hg => r_fieldAddr (hA30.get rfl) Try.underlying29 rfl ti_9 (by decide)) fun a31 hA31 _ => ?_)
    refine sq (opk_gval hA31 rfl rfl (g := true) (e := r_21) rfl (fun hg => r_load1 Try.underlying9 rfl (cv_get (hA31.get rfl) hg) (hB29.cell 2 _ rfl)) fun a32 hA32 _ => ?_)
    refine sq (opk_gval hA32 rfl rfl (g := true) (e := r_21) rfl (fun hg => r_seql (cv_get (hA32.get rfl) hg) rfl) fun a33 hA33 _ => ?_)
    refine sq (opk_val hA33 rfl (r_pick_and (g := (true && (r_21 == true))) (hA33.get rfl) (hA33.get rfl) (fun he => g_mkt rfl he)) fun a34 hA34 _ => ?_)
    refine sq (opk_val hA34 rfl (r_move (hA34.get rfl)) fun a35 hA35 _ => ?_)
    refine sq (opk_gval hA35 rfl rfl (g := true) (e := (r_21 && (decide (t_1_Text = ([] : Str))))) rfl (fun hg => r_fieldAddr (hA35.get rfl) Try.underlying29 rfl ti_26 (by decide)) fun a36 hA36 _ => ?_)
    refine sq (opk_gval hA36 rfl rfl (g := true) (e := (r_21 && (decide (t_1_Text = ([] : Str))))) rfl (fun hg => r_load1 Try.underlying26 rfl (cv_get (hA36.get rfl) hg) (hB29.cell 3 _ rfl)) fun a37 hA37 _ => ?_)
    obtain ⟨r_38, hc42, ht41⟩ := ht24
    refine sq (opk_gcall hA37 rfl rfl (g := true) (e := (r_21 && (decide (t_1_Text = ([] : Str))))) rfl (fun hg => r_call (args := #[Sl.v t_1_Attrs]) Try.func92 (by decide) rfl (map_arr (ml_cons (cv_get (hA37.get rfl) hg) ml_nil)) rfl) (fun hg => hc42 ⟨(b_and_t (g_t hg)).1, (of_decide_eq_true (b_and_t (g_t hg)).2)⟩) fun a39 w40 hA39 _ hE43 => ?_)
    have hB44 := hB29.ext hE43
    have hC45 : Chg [] w23 w40 := hE43
    have ht46 := ht41 w40 hE43
    refine sq (opk_val hA39 rfl (r_pick_and (g := (true && ((r_21 && (decide (t_1_Text = ([] : Str)))) == true))) (hA39.get rfl) (hA39.get rfl) (fun he => g_mkt rfl he)) fun a47 hA47 _ => ?_)
    refine sq (opk_val hA47 rfl (r_move (hA47.get rfl)) fun a48 hA48 _ => ?_)
    refine sq (opk_gval hA48 rfl rfl (g := true) (e := ((r_21 && (decide (t_1_Text = ([] : Str)))) && r_38)) rfl (fun hg => r_loadN (cs := [.int .i64 t_1_Kind, .string (Bs t_1_Name), .string (Bs t_1_Text), Sl.v t_1_Attrs, Sl.v t_1_Kids]) Try.underlying29 rfl ti_29 (hA48.get rfl) (hB44.part 0 _ rfl)) fun a49 hA49 _ => ?_)
    obtain ⟨r_50, hc54, ht53⟩ := ht46
    refine sq (opk_gcall hA49 rfl rfl (g := true) (e := ((r_21 && (decide (t_1_Text = ([] : Str)))) && r_38)) rfl (fun hg => r_call (args := #[.agg #[.int .i64 t_1_Kind, .string (Bs t_1_Name), .string (Bs t_1_Text), Sl.v t_1_Attrs, Sl.v t_1_Kids]]) Try.func63 (by decide) rfl (map_arr (ml_cons (cv_get (hA49.get rfl) hg) ml_nil)) rfl) (fun hg => hc54 ⟨⟨(b_and_t (b_and_t (g_t hg)).1).1, (of_decide_eq_true (b_and_t (b_and_t (g_t hg)).1).2)⟩, (b_and_t (g_t hg)).2⟩) fun a51 w52 hA51 _ hE55 => ?_)
    have hB56 := hB44.ext hE55
    have hC57 : Chg [] w40 w52 := hE55
    have ht58 := ht53 w52 hE55
    refine sq (opk_val hA51 rfl (r_pick_and (g := (true && (((r_21 && (decide (t_1_Text = ([] : Str)))) && r_38) == true))) (hA51.get rfl) (hA51.get rfl) (fun he => g_mkt rfl he)) fun a59 hA59 _ => ?_)
    refine sq (opk_val hA59 rfl (r_assign (hA59.get rfl)) fun a60 hA60 _ => ?_)
    refine sq_end ?_
    have hA61 := hA60.keep [(2, .bool (((r_21 && (decide (t_1_Text = ([] : Str)))) && r_38) && r_50))] ⟨rfl, trivial⟩
    refine then_normal ?_
    refine wp_ret ?_
    refine then_ret ?_
    exact res_all (vs := [.bool (((r_21 && (decide (t_1_Text = ([] : Str)))) && r_38) && r_50)]) rfl hA61 ⟨res_of_tmp hA61 rfl, trivial⟩ ht58
  · have ht17 := ht0.2 (of_decide_eq_false hc)
    clear hc
    refine wp_skip ?_
    refine then_normal ?_
    refine wp_seq ?_
    refine wp_seq ?_
    refine wp_region_lit ?_
    refine sq (opk_val hA15 rfl (r_fieldAddr (hA15.get rfl) Try.underlying29 rfl ti_26 (by decide)) fun a62 hA62 _ => ?_)
    refine sq (opk_val hA62 rfl (r_load1 Try.underlying26 rfl (hA62.get rfl) (hB7.cell 3 _ rfl)) fun a63 hA63 _ => ?_)
    refine sq (opk_val hA63 rfl (r_len (hA63.get rfl) Try.underlying26) fun a64 hA64 _ => ?_)
    refine sq (opk_val hA64 rfl (r_gtr (hA64.get rfl) rfl) fun a65 hA65 _ => ?_)
    refine sq (opk_val hA65 rfl (r_move (hA65.get rfl)) fun a66 hA66 _ => ?_)
    refine sq (opk_gval hA66 rfl rfl (g := true) (e := (decide (0 < (t_1_Attrs.n : Int)))) rfl (fun hg => r_fieldAddr (hA66.get rfl) Try.underlying29 rfl ti_27 (by decide)) fun a67 hA67 _ => ?_)
    refine sq (opk_gval hA67 rfl rfl (g := true) (e := (decide (0 < (t_1_Attrs.n : Int)))) rfl (fun hg => r_load1 Try.underlying27 rfl (cv_get (hA67.get rfl) hg) (hB7.cell 4 _ rfl)) fun a68 hA68 _ => ?_)
    refine sq (opk_gval hA68 rfl rfl (g := true) (e := (decide (0 < (t_1_Attrs.n : Int)))) rfl (fun hg => r_len (cv_get (hA68.get rfl) hg) Try.underlying27) fun a69 hA69 _ => ?_)
    refine sq (opk_gval hA69 rfl rfl (g := true) (e := (decide (0 < (t_1_Attrs.n : Int)))) rfl (fun hg => r_gtr (cv_get (hA69.get rfl) hg) rfl) fun a70 hA70 _ => ?_)
    refine sq (opk_val hA70 rfl (r_pick_or (g := (true && ((decide (0 < (t_1_Attrs.n : Int))) == false))) (hA70.get rfl) (hA70.get rfl) (fun he => g_mkf rfl he)) fun a71 hA71 _ => ?_)
    refine sq_end ?_
    have hA72 := hA71.keep [(1, .pointer (some (⟨B_2, 0, none⟩ : Addr))), (32, .bool ((decide (0 < (t_1_Attrs.n : Int))) || (decide (0 < (t_1_Kids.n : Int)))))] ⟨rfl, rfl, trivial⟩
    refine then_normal ?_
    refine wp_cond_split (hA72.get rfl) (fun hc => ?_) (fun hc => ?_)
    · have ht73 := ht17.1 ((b_or_t hc).imp (fun h => (of_decide_eq_true h)) (fun h => (of_decide_eq_true h)))
      clear hc
      refine wp_seq ?_
      refine wp_region_lit ?_
      refine sq (opk_val hA72 rfl (r_assign rfl) fun a75 hA75 _ => ?_)
      refine sq_end ?_
      have hA76 := hA75.keep [(2, .bool false)] ⟨rfl, trivial⟩
      refine then_normal ?_
      refine wp_ret ?_
      refine then_ret ?_
      have ht77 := ht73 w3 B_2 hN8  hC9
      exact res_all (vs := [.bool false]) rfl hA76 ⟨res_of_tmp hA76 rfl, trivial⟩ ht77
    · have ht74 := ht17.2 ⟨(of_decide_eq_false (b_or_f hc).1), (of_decide_eq_false (b_or_f hc).2)⟩
      clear hc
      refine wp_skip ?_
      refine then_normal ?_
      refine wp_seq ?_
      refine wp_seq ?_
      refine wp_region_lit ?_
      refine sq (opk_val hA72 rfl (r_fieldAddr (hA72.get rfl) Try.underlying29 rfl ti_3 (by decide)) fun a78 hA78 _ => ?_)
      refine sq (opk_val hA78 rfl (r_load1 Try.underlying3 rfl (hA78.get rfl) (hB7.cell 0 _ rfl)) fun a79 hA79 _ => ?_)
      refine sq_end ?_
      have hA80 := hA79.keep [(1, .pointer (some (⟨B_2, 0, none⟩ : Addr))), (34, .int .i64 t_1_Kind)] ⟨rfl, rfl, trivial⟩
      refine then_normal ?_
      refine wp_block ?_
      refine wp_seq ?_
      refine wp_region_lit ?_
      refine sq (opk_val hA80 rfl (r_eql (hA80.get rfl) rfl) fun a81 hA81 _ => ?_)
      refine sq (opk_val hA81 rfl (r_assign (hA81.get rfl)) fun a82 hA82 _ => ?_)
      refine sq_end ?_
      have hA83 := hA82.keep [(1, .pointer (some (⟨B_2, 0, none⟩ : Addr))), (34, .int .i64 t_1_Kind), (35, .bool (decide (t_1_Kind = 3)))] ⟨rfl, rfl, rfl, trivial⟩
      refine then_normal ?_
      refine wp_cond_split (hA83.get rfl) (fun hc => ?_) (fun hc => ?_)
      · have ht84 := ht74.1 (of_decide_eq_true hc)
        clear hc
        refine wp_seq ?_
        refine wp_region_lit ?_
        refine sq (opk_val hA83 rfl (r_fieldAddr (hA83.get rfl) Try.underlying29 rfl ti_9 (by decide)) fun a86 hA86 _ => ?_)
        refine sq (opk_val hA86 rfl (r_load1 Try.underlying9 rfl (hA86.get rfl) (hB7.cell 1 _ rfl)) fun a87 hA87 _ => ?_)
        refine sq (opk_val hA87 rfl (r_seql (hA87.get rfl) rfl) fun a88 hA88 _ => ?_)
        refine sq (opk_val hA88 rfl (r_move (hA88.get rfl)) fun a89 hA89 _ => ?_)
        refine sq (opk_gval hA89 rfl rfl (g := true) (e := (decide (t_1_Name = ([] : Str)))) rfl (fun hg => r_fieldAddr (hA89.get rfl) Try.underlying29 rfl ti_9 (by decide)) fun a90 hA90 _ => ?_)
        refine sq (opk_gval hA90 rfl rfl (g := true) (e := (decide (t_1_Name = ([] : Str)))) rfl (fun hg => r_load1 Try.underlying9 rfl (cv_get (hA90.get rfl) hg) (hB7.cell 2 _ rfl)) fun a91 hA91 _ => ?_)
        refine sq (opk_gval hA91 rfl rfl (g := true) (e := (decide (t_1_Name = ([] : Str)))) rfl (fun hg => r_sneq (cv_get (hA91.get rfl) hg) rfl) fun a92 hA92 _ => ?_)
        refine sq (opk_val hA92 rfl (r_pick_and (g := (true && ((decide (t_1_Name = ([] : Str))) == true))) (hA92.get rfl) (hA92.get rfl) (fun he => g_mkt rfl he)) fun a93 hA93 _ => ?_)
        refine sq (opk_val hA93 rfl (r_move (hA93.get rfl)) fun a94 hA94 _ => ?_)
        refine sq (opk_gval hA94 rfl rfl (g := true) (e := ((decide (t_1_Name = ([] : Str))) && (decide (t_1_Text ≠ ([] : Str))))) rfl (fun hg => r_fieldAddr (hA94.get rfl) Try.underlying29 rfl ti_9 (by decide)) fun a95 hA95 _ => ?_)
        refine sq (opk_gval hA95 rfl rfl (g := true) (e := ((decide (t_1_Name = ([] : Str))) && (decide (t_1_Text ≠ ([] : Str))))) rfl (fun hg => r_load1 Try.underlying9 rfl (cv_get (hA95.get rfl) hg) (hB7.cell 2 _ rfl)) fun a96 hA96 _ => ?_)
        refine sq (opk_gval hA96 rfl rfl (g := true) (e := ((decide (t_1_Name = ([] : Str))) && (decide (t_1_Text ≠ ([] : Str))))) rfl (fun hg => r_slen (cv_get (hA96.get rfl) hg) Try.underlying9) fun a97 hA97 _ => ?_)
        refine sq (opk_gval hA97 rfl rfl (g := true) (e := ((decide (t_1_Name = ([] : Str))) && (decide (t_1_Text ≠ ([] : Str))))) rfl (fun hg => r_leq (cv_get (hA97.get rfl) hg) rfl) fun a98 hA98 _ => ?_)
        refine sq (opk_val hA98 rfl (r_pick_and (g := (true && (((decide (t_1_Name = ([] : Str))) && (decide (t_1_Text ≠ ([] : Str)))) == true))) (hA98.get rfl) (hA98.get rfl) (fun he => g_mkt rfl he)) fun a99 hA99 _ => ?_)
        refine sq (opk_val hA99 rfl (r_assign (hA99.get rfl)) fun a100 hA100 _ => ?_)
        refine sq_end ?_
        have hA101 := hA100.keep [(2, .bool (((decide (t_1_Name = ([] : Str))) && (decide (t_1_Text ≠ ([] : Str)))) && (decide ((t_1_Text.length : Int) ≤ 4096))))] ⟨rfl, trivial⟩
        refine then_normal ?_
        refine wp_ret ?_
        refine block_ret ?_
        refine then_ret ?_
        have ht102 := ht84 w3 B_2 hN8  hC9
        exact res_all (vs := [.bool (((decide (t_1_Name = ([] : Str))) && (decide (t_1_Text ≠ ([] : Str)))) && (decide ((t_1_Text.length : Int) ≤ 4096)))]) rfl hA101 ⟨res_of_tmp hA101 rfl, trivial⟩ ht102
      · have ht85 := ht74.2 (of_decide_eq_false hc)
        clear hc
        refine wp_seq ?_
        refine wp_region_lit ?_
        refine sq (opk_val hA83 rfl (r_eql (hA83.get rfl) rfl) fun a103 hA103 _ => ?_)
        refine sq (opk_val hA103 rfl (r_assign (hA103.get rfl)) fun a104 hA104 _ => ?_)
        refine sq_end ?_
        have hA105 := hA104.keep [(1, .pointer (some (⟨B_2, 0, none⟩ : Addr))), (34, .int .i64 t_1_Kind), (51, .bool (decide (t_1_Kind = 4)))] ⟨rfl, rfl, rfl, trivial⟩
        refine then_normal ?_
        refine wp_cond_split (hA105.get rfl) (fun hc => ?_) (fun hc => ?_)
        · have ht106 := ht85.1 (of_decide_eq_true hc)
          clear hc
          refine wp_seq ?_
          refine wp_region_lit ?_
          refine sq (opk_val hA105 rfl (r_fieldAddr (hA105.get rfl) Try.underlying29 rfl ti_9 (by decide)) fun a108 hA108 _ => ?_)
          refine sq (opk_val hA108 rfl (r_load1 Try.underlying9 rfl (hA108.get rfl) (hB7.cell 1 _ rfl)) fun a109 hA109 _ => ?_)
          refine sq (opk_val hA109 rfl (r_seql (hA109.get rfl) rfl) fun a110 hA110 _ => ?_)
          refine sq (opk_val hA110 rfl (r_move (hA110.get rfl)) fun a111 hA111 _ => ?_)
          refine sq (opk_gval hA111 rfl rfl (g := true) (e := (decide (t_1_Name = ([] : Str)))) rfl (fun hg => r_fieldAddr (hA111.get rfl) Try.underlying29 rfl ti_9 (by decide)) fun a112 hA112 _ => ?_)
          refine sq (opk_gval hA112 rfl rfl (g := true) (e := (decide (t_1_Name = ([] : Str)))) rfl (fun hg => r_load1 Try.underlying9 rfl (cv_get (hA112.get rfl) hg) (hB7.cell 2 _ rfl)) fun a113 hA113 _ => ?_)
          refine sq (opk_gval hA113 rfl rfl (g := true) (e := (decide (t_1_Name = ([] : Str)))) rfl (fun hg => r_slen (cv_get (hA113.get rfl) hg) Try.underlying9) fun a114 hA114 _ => ?_)
          refine sq (opk_gval hA114 rfl rfl (g := true) (e := (decide (t_1_Name = ([] : Str)))) rfl (fun hg => r_leq (cv_get (hA114.get rfl) hg) rfl) fun a115 hA115 _ => ?_)
          refine sq (opk_val hA115 rfl (r_pick_and (g := (true && ((decide (t_1_Name = ([] : Str))) == true))) (hA115.get rfl) (hA115.get rfl) (fun he => g_mkt rfl he)) fun a116 hA116 _ => ?_)
          refine sq (opk_val hA116 rfl (r_assign (hA116.get rfl)) fun a117 hA117 _ => ?_)
          refine sq_end ?_
          have hA118 := hA117.keep [(2, .bool ((decide (t_1_Name = ([] : Str))) && (decide ((t_1_Text.length : Int) ≤ 4096))))] ⟨rfl, trivial⟩
          refine then_normal ?_
          refine wp_ret ?_
          refine block_ret ?_
          refine then_ret ?_
          have ht119 := ht106 w3 B_2 hN8  hC9
          exact res_all (vs := [.bool ((decide (t_1_Name = ([] : Str))) && (decide ((t_1_Text.length : Int) ≤ 4096)))]) rfl hA118 ⟨res_of_tmp hA118 rfl, trivial⟩ ht119
        · have ht107 := ht85.2 (of_decide_eq_false hc)
          clear hc
          refine wp_seq ?_
          refine wp_region_lit ?_
          refine sq (opk_val hA105 rfl (r_eql (hA105.get rfl) rfl) fun a120 hA120 _ => ?_)
          refine sq (opk_val hA120 rfl (r_assign (hA120.get rfl)) fun a121 hA121 _ => ?_)
          refine sq_end ?_
          have hA122 := hA121.keep [(1, .pointer (some (⟨B_2, 0, none⟩ : Addr))), (62, .bool (decide (t_1_Kind = 5)))] ⟨rfl, rfl, trivial⟩
          refine then_normal ?_
          refine wp_cond_split (hA122.get rfl) (fun hc => ?_) (fun hc => ?_)
          · have ht123 := ht107.1 (of_decide_eq_true hc)
            clear hc
            refine wp_seq ?_
            refine wp_region_lit ?_
            refine sq (opk_val hA122 rfl (r_fieldAddr (hA122.get rfl) Try.underlying29 rfl ti_9 (by decide)) fun a125 hA125 _ => ?_)
            refine sq (opk_val hA125 rfl (r_load1 Try.underlying9 rfl (hA125.get rfl) (hB7.cell 2 _ rfl)) fun a126 hA126 _ => ?_)
            refine sq (opk_val hA126 rfl (r_seql (hA126.get rfl) rfl) fun a127 hA127 _ => ?_)
            refine sq (opk_val hA127 rfl (r_move (hA127.get rfl)) fun a128 hA128 _ => ?_)
            refine sq (opk_gval hA128 rfl rfl (g := true) (e := (decide (t_1_Text = ([] : Str)))) rfl (fun hg => r_fieldAddr (hA128.get rfl) Try.underlying29 rfl ti_9 (by decide)) fun a129 hA129 _ => ?_)
            refine sq (opk_gval hA129 rfl rfl (g := true) (e := (decide (t_1_Text = ([] : Str)))) rfl (fun hg => r_load1 Try.underlying9 rfl (cv_get (hA129.get rfl) hg) (hB7.cell 1 _ rfl)) fun a130 hA130 _ => ?_)
            refine sq (opk_gval hA130 rfl rfl (g := true) (e := (decide (t_1_Text = ([] : Str)))) rfl (fun hg => r_slen (cv_get (hA130.get rfl) hg) Try.underlying9) fun a131 hA131 _ => ?_)
            refine sq (opk_gval hA131 rfl rfl (g := true) (e := (decide (t_1_Text = ([] : Str)))) rfl (fun hg => r_leq (cv_get (hA131.get rfl) hg) rfl) fun a132 hA132 _ => ?_)
            refine sq (opk_val hA132 rfl (r_pick_and (g := (true && ((decide (t_1_Text = ([] : Str))) == true))) (hA132.get rfl) (hA132.get rfl) (fun he => g_mkt rfl he)) fun a133 hA133 _ => ?_)
            refine sq (opk_val hA133 rfl (r_assign (hA133.get rfl)) fun a134 hA134 _ => ?_)
            refine sq_end ?_
            have hA135 := hA134.keep [(2, .bool ((decide (t_1_Text = ([] : Str))) && (decide ((t_1_Name.length : Int) ≤ 32))))] ⟨rfl, trivial⟩
            refine then_normal ?_
            refine wp_ret ?_
            refine block_ret ?_
            refine then_ret ?_
            have ht136 := ht123 w3 B_2 hN8  hC9
            exact res_all (vs := [.bool ((decide (t_1_Text = ([] : Str))) && (decide ((t_1_Name.length : Int) ≤ 32)))]) rfl hA135 ⟨res_of_tmp hA135 rfl, trivial⟩ ht136
          · have ht124 := ht107.2 (of_decide_eq_false hc)
            clear hc
            refine wp_skip ?_
            refine block_normal ?_
            refine then_normal ?_
            refine wp_seq ?_
            refine wp_region_lit ?_
            refine sq (opk_val hA122 rfl (r_assign rfl) fun a137 hA137 _ => ?_)
            refine sq_end ?_
            have hA138 := hA137.keep [(2, .bool false)] ⟨rfl, trivial⟩
            refine then_normal ?_
            refine wp_ret ?_
            have ht139 := ht124 w3 B_2 hN8  hC9
            exact res_all (vs := [.bool false]) rfl hA138 ⟨res_of_tmp hA138 rfl, trivial⟩ ht139

/-- The condition of topiary/tree.attrs. -/
def tree_attrs.vc (l_1 : Sl) (R : Value → World → Prop) (w : World) : Prop :=
((12 < (l_1.n : Int)) →
R (.bool false) w) ∧
((¬ (12 < (l_1.n : Int))) →
∃ (J_21 : Str → Int → World → Prop) (mu_22 : Str → Int → World → Nat),
J_21 ([] : Str) 0 w ∧
(∀ (last_18 : Str) (x_19 : Int) (w20 : World), J_21 last_18 x_19 w20 →
((x_19 < (l_1.n : Int)) →
((0 : Int) ≤ x_19 ∧ x_19 < (l_1.n : Int)) ∧ ∃ p_101 : Addr, l_1.a = some p_101 ∧
∃ (x_107_Name : Str) (x_107_Value : Str), (Cells w20 (p_101.add (x_19.toNat * 2)) [.string (Bs x_107_Name), .string (Bs x_107_Value)]) ∧
∀ (w118 : World) (B_110 : Nat), New w20 B_110 w118 → Chg [] w20 w118 →
∃ (r_134 : Bool), (((((Op.bytesLess x_107_Name last_18) = false) ∧ (¬ (x_107_Name = last_18)))) → Calls Try.prog 50 #[.string (Bs x_107_Name)] w118 (Ret fun v w' => Ext w118 w' ∧ v = .bool r_134)) ∧
(∀ w136 : World, Ext w118 w136 →
((((((Op.bytesLess x_107_Name last_18) = true) ∨ (x_107_Name = last_18)) ∨ (r_134 = false)) ∨ (4096 < (x_107_Value.length : Int))) →
R (.bool false) w136) ∧
((((((Op.bytesLess x_107_Name last_18) = false) ∧ (¬ (x_107_Name = last_18))) ∧ (r_134 = true)) ∧ (¬ (4096 < (x_107_Value.length : Int)))) →
(I64 (x_19 + 1)) ∧
J_21 x_107_Name (x_19 + 1) w136 ∧ mu_22 x_107_Name (x_19 + 1) w136 < mu_22 last_18 x_19 w20))) ∧
((¬ (x_19 < (l_1.n : Int))) →
R (.bool true) w20)))
set_option maxHeartbeats 1000000 in
set_option maxRecDepth 10000 in
theorem tree_attrs.ok (l_1 : Sl) {R : Value → World → Prop} {w : World} (ht0 : tree_attrs.vc l_1 R w) : Calls Try.prog 92 #[Sl.v l_1] w (Ret R) := by
  refine enter [Sl.v l_1] Try.func92 rfl Try.ntmps92 rfl ?_
  intro a0 hA0
  unfold tree_attrs.vc at ht0
  refine wp_seq ?_
  refine wp_region_lit ?_
  refine sq (opk_val hA0 rfl (r_assign rfl) fun a2 hA2 _ => ?_)
  refine sq_end ?_
  have hA3 := hA2.keep [(0, Sl.v l_1)] ⟨rfl, trivial⟩
  refine then_normal ?_
  refine wp_seq ?_
  refine wp_seq ?_
  refine wp_region_lit ?_
  refine sq (opk_val hA3 rfl (r_move (hA3.get rfl)) fun a4 hA4 _ => ?_)
  refine sq (opk_val hA4 rfl (r_len (hA4.get rfl) Try.underlying26) fun a5 hA5 _ => ?_)
  refine sq (opk_val hA5 rfl (r_gtr (hA5.get rfl) rfl) fun a6 hA6 _ => ?_)
  refine sq_end ?_
  have hA7 := hA6.keep [(0, Sl.v l_1), (8, .bool (decide (12 < (l_1.n : Int))))] ⟨rfl, rfl, trivial⟩
  refine then_normal ?_
  refine wp_cond_split (hA7.get rfl) (fun hc => ?_) (fun hc => ?_)
  · have ht8 := ht0.1 (of_decide_eq_true hc)
    clear hc
    refine wp_seq ?_
    refine wp_region_lit ?_
    refine sq (opk_val hA7 rfl (r_assign rfl) fun a10 hA10 _ => ?_)
    refine sq_end ?_
    have hA11 := hA10.keep [(2, .bool false)] ⟨rfl, trivial⟩
    refine then_normal ?_
    refine wp_ret ?_
    refine then_ret ?_
    exact res_all (vs := [.bool false]) rfl hA11 ⟨res_of_tmp hA11 rfl, trivial⟩ ht8
  · have ht9 := ht0.2 (of_decide_eq_false hc)
    clear hc
    refine wp_skip ?_
    refine then_normal ?_
    refine wp_seq ?_
    refine wp_region_lit ?_
    refine sq (opk_val hA7 rfl (r_assign rfl) fun a12 hA12 _ => ?_)
    refine sq_end ?_
    have hA13 := hA12.keep [(0, Sl.v l_1), (3, .string (Bs ([] : Str)))] ⟨rfl, rfl, trivial⟩
    refine then_normal ?_
    refine wp_seq ?_
    refine wp_seq ?_
    refine wp_region_lit ?_
    refine sq (opk_val hA13 rfl (r_move (hA13.get rfl)) fun a14 hA14 _ => ?_)
    refine sq (opk_val hA14 rfl (r_len (hA14.get rfl) Try.underlying26) fun a15 hA15 _ => ?_)
    refine sq (opk_val hA15 rfl (r_move rfl) fun a16 hA16 _ => ?_)
    refine sq_end ?_
    have hA17 := hA16.keep [(3, .string (Bs ([] : Str))), (9, Sl.v l_1), (10, .int .i64 (l_1.n : Int)), (11, .int .i64 0)] ⟨rfl, rfl, rfl, rfl, trivial⟩
    refine then_normal ?_
    refine wp_block ?_
    obtain ⟨J_21, mu_22, h094, ht93⟩ := ht9
    refine wp_loop_st (σ := Str × Int × World) (fun s a w => Ag 34 a [(3, .string (Bs s.1)), (9, Sl.v l_1), (10, .int .i64 (l_1.n : Int)), (11, .int .i64 s.2.1)] ∧ w = s.2.2 ∧ J_21 s.1 s.2.1 s.2.2) (fun s => mu_22 s.1 s.2.1 s.2.2) (([] : Str), 0, w) ⟨hA17.keep [(3, .string (Bs ([] : Str))), (9, Sl.v l_1), (10, .int .i64 (l_1.n : Int)), (11, .int .i64 0)] ⟨rfl, rfl, rfl, rfl, trivial⟩, rfl, h094⟩ ?_
    rintro ⟨last_18, x_19, w20⟩ a92 w_ ⟨hA92, hw_, hJ96⟩
    have hw_ : w20 = w_ := hw_.symm
    subst hw_
    have ht95 := ht93 last_18 x_19 _ hJ96
    refine wp_seq ?_
    refine wp_region_lit ?_
    refine sq (opk_val hA92 rfl (r_lss (hA92.get rfl) (hA92.get rfl)) fun a97 hA97 _ => ?_)
    refine sq_end ?_
    have hA98 := hA97.keep [(3, .string (Bs last_18)), (9, Sl.v l_1), (10, .int .i64 (l_1.n : Int)), (11, .int .i64 x_19), (12, .bool (decide (x_19 < (l_1.n : Int))))] ⟨rfl, rfl, rfl, rfl, rfl, trivial⟩
    refine then_normal ?_
    refine wp_seq ?_
    refine wp_cond_split (hA98.get rfl) (fun hc => ?_) (fun hc => ?_)
    · have ht99 := ht95.1 (of_decide_eq_true hc)
      clear hc
      refine wp_skip ?_
      refine then_normal ?_
      refine wp_seq ?_
      refine wp_block ?_
      refine wp_seq ?_
      refine wp_region_lit ?_
      obtain ⟨hb102, p_101, hp103, ht104⟩ := ht99
      refine sq (opk_val hA98 rfl (r_indexAddr (hA98.get rfl) (hA98.get rfl) Try.underlying26 ti_65 hb102 hp103) fun a105 hA105 _ => ?_)
      obtain ⟨x_107_Name, x_107_Value, hx108, ht109⟩ := ht104
      refine sq (opk_val hA105 rfl (r_loadN Try.underlying65 rfl ti_65 (hA105.get rfl) hx108) fun a106 hA106 _ => ?_)
      refine sq (opk_new (fun B => .pointer (some ⟨B, 0, none⟩)) hA106 rfl (r_alloc (cs := [.string (Bs ([] : Str)), .string (Bs ([] : Str))]) ti_65 rfl) fun a112 w111 B_110 hE113 hN114 hB115 hA112 _ => ?_)
      have hN116 : New w20 B_110 w111 := hN114
      have hC117 : Chg [] w20 w111 := hE113
      refine sq (opk_store hA112 hB115 (r_store (vs := [.string (Bs x_107_Name), .string (Bs x_107_Value)]) (hA112.get rfl) (hA112.get rfl) rfl ti_65 hB115 rfl (ones_all [.string (Bs x_107_Name), .string (Bs x_107_Value)] rfl)) fun a119 w118 hS120 hB121 hA119 => ?_)
      have hB122 : Box w118 B_110 65 [.string (Bs x_107_Name), .string (Bs x_107_Value)] := hB121
      have hC123 := hC117.storeNew hN116 hS120
      have hN124 := hN116.up hS120.size
      refine sq_end ?_
      have hA125 := hA119.keep [(3, .string (Bs last_18)), (5, .pointer (some (⟨B_110, 0, none⟩ : Addr))), (9, Sl.v l_1), (10, .int .i64 (l_1.n : Int)), (11, .int .i64 x_19)] ⟨rfl, rfl, rfl, rfl, rfl, trivial⟩
      refine then_normal ?_
      refine wp_seq ?_
      refine wp_seq ?_
      refine wp_region_lit ?_
      refine sq (opk_val hA125 rfl (r_fieldAddr (hA125.get rfl) Try.underlying65 rfl ti_9 (by decide)) fun a126 hA126 _ => ?_)
      refine sq (opk_val hA126 rfl (r_load1 Try.underlying9 rfl (hA126.get rfl) (hB122.cell 0 _ rfl)) fun a127 hA127 _ => ?_)
      refine sq (opk_val hA127 rfl (r_move (hA127.get rfl)) fun a128 hA128 _ => ?_)
      refine sq (opk_val hA128 rfl (r_sleq (hA128.get rfl) (hA128.get rfl)) fun a129 hA129 _ => ?_)
      refine sq (opk_val hA129 rfl (r_move (hA129.get rfl)) fun a130 hA130 _ => ?_)
      refine sq (opk_gval hA130 rfl rfl (g := true) (e := ((Op.bytesLess x_107_Name last_18) || (decide (x_107_Name = last_18)))) rfl (fun hg => r_fieldAddr (hA130.get rfl) Try.underlying65 rfl ti_9 (by decide)) fun a131 hA131 _ => ?_)
      refine sq (opk_gval hA131 rfl rfl (g := true) (e := ((Op.bytesLess x_107_Name last_18) || (decide (x_107_Name = last_18)))) rfl (fun hg => r_load1 Try.underlying9 rfl (cv_get (hA131.get rfl) hg) (hB122.cell 0 _ rfl)) fun a132 hA132 _ => ?_)
      have ht133 := ht109 w118 B_110 hN124  hC123
      obtain ⟨r_134, hc138, ht137⟩ := ht133
      refine sq (opk_gcall hA132 rfl rfl (g := true) (e := ((Op.bytesLess x_107_Name last_18) || (decide (x_107_Name = last_18)))) rfl (fun hg => r_call (args := #[.string (Bs x_107_Name)]) Try.func50 (by decide) rfl (map_arr (ml_cons (cv_get (hA132.get rfl) hg) ml_nil)) rfl) (fun hg => hc138 ⟨(b_or_f (g_f hg)).1, (of_decide_eq_false (b_or_f (g_f hg)).2)⟩) fun a135 w136 hA135 _ hE139 => ?_)
      have hB140 := hB122.ext hE139
      have hC141 : Chg [] w118 w136 := hE139
      have ht142 := ht137 w136 hE139
      refine sq (opk_gval hA135 rfl rfl (g := true) (e := ((Op.bytesLess x_107_Name last_18) || (decide (x_107_Name = last_18)))) rfl (fun hg => r_not (cv_get (hA135.get rfl) hg)) fun a143 hA143 _ => ?_)
      refine sq (opk_val hA143 rfl (r_pick_or (g := (true && (((Op.bytesLess x_107_Name last_18) || (decide (x_107_Name = last_18))) == false))) (hA143.get rfl) (hA143.get rfl) (fun he => g_mkf rfl he)) fun a144 hA144 _ => ?_)
      refine sq (opk_val hA144 rfl (r_move (hA144.get rfl)) fun a145 hA145 _ => ?_)
      refine sq (opk_gval hA145 rfl rfl (g := true) (e := (((Op.bytesLess x_107_Name last_18) || (decide (x_107_Name = last_18))) || (!r_134))) rfl (fun hg => r_fieldAddr (hA145.get rfl) Try.underlying65 rfl ti_9 (by decide)) fun a146 hA146 _ => ?_)
      refine sq (opk_gval hA146 rfl rfl (g := true) (e := (((Op.bytesLess x_107_Name last_18) || (decide (x_107_Name = last_18))) || (!r_134))) rfl (fun hg => r_load1 Try.underlying9 rfl (cv_get (hA146.get rfl) hg) (hB140.cell 1 _ rfl)) fun a147 hA147 _ => ?_)
      refine sq (opk_gval hA147 rfl rfl (g := true) (e := (((Op.bytesLess x_107_Name last_18) || (decide (x_107_Name = last_18))) || (!r_134))) rfl (fun hg => r_slen (cv_get (hA147.get rfl) hg) Try.underlying9) fun a148 hA148 _ => ?_)
      refine sq (opk_gval hA148 rfl rfl (g := true) (e := (((Op.bytesLess x_107_Name last_18) || (decide (x_107_Name = last_18))) || (!r_134))) rfl (fun hg => r_gtr (cv_get (hA148.get rfl) hg) rfl) fun a149 hA149 _ => ?_)
      refine sq (opk_val hA149 rfl (r_pick_or (g := (true && ((((Op.bytesLess x_107_Name last_18) || (decide (x_107_Name = last_18))) || (!r_134)) == false))) (hA149.get rfl) (hA149.get rfl) (fun he => g_mkf rfl he)) fun a150 hA150 _ => ?_)
      refine sq_end ?_
      have hA151 := hA150.keep [(5, .pointer (some (⟨B_110, 0, none⟩ : Addr))), (9, Sl.v l_1), (10, .int .i64 (l_1.n : Int)), (11, .int .i64 x_19), (30, .bool ((((Op.bytesLess x_107_Name last_18) || (decide (x_107_Name = last_18))) || (!r_134)) || (decide (4096 < (x_107_Value.length : Int)))))] ⟨rfl, rfl, rfl, rfl, rfl, trivial⟩
      refine then_normal ?_
      refine wp_cond_split (hA151.get rfl) (fun hc => ?_) (fun hc => ?_)
      · have ht152 := ht142.1 ((b_or_t hc).imp (fun h => ((b_or_t h).imp (fun h => ((b_or_t h).imp (fun h => h) (fun h => (of_decide_eq_true h)))) (fun h => (b_not_t h)))) (fun h => (of_decide_eq_true h)))
        clear hc
        refine wp_seq ?_
        refine wp_region_lit ?_
        refine sq (opk_val hA151 rfl (r_assign rfl) fun a154 hA154 _ => ?_)
        refine sq_end ?_
        have hA155 := hA154.keep [(2, .bool false)] ⟨rfl, trivial⟩
        refine then_normal ?_
        refine wp_ret ?_
        refine then_ret ?_
        refine block_ret ?_
        refine then_ret ?_
        refine then_ret ?_
        refine block_ret ?_
        refine then_ret ?_
        exact res_all (vs := [.bool false]) rfl hA155 ⟨res_of_tmp hA155 rfl, trivial⟩ ht152
      · have ht153 := ht142.2 ⟨⟨⟨(b_or_f (b_or_f (b_or_f hc).1).1).1, (of_decide_eq_false (b_or_f (b_or_f (b_or_f hc).1).1).2)⟩, (b_not_f (b_or_f (b_or_f hc).1).2)⟩, (of_decide_eq_false (b_or_f hc).2)⟩
        clear hc
        refine wp_skip ?_
        refine then_normal ?_
        refine wp_region_lit ?_
        refine sq (opk_val hA151 rfl (r_fieldAddr (hA151.get rfl) Try.underlying65 rfl ti_9 (by decide)) fun a156 hA156 _ => ?_)
        refine sq (opk_val hA156 rfl (r_load1 Try.underlying9 rfl (hA156.get rfl) (hB140.cell 0 _ rfl)) fun a157 hA157 _ => ?_)
        refine sq (opk_val hA157 rfl (r_assign (hA157.get rfl)) fun a158 hA158 _ => ?_)
        refine sq_end ?_
        have hA159 := hA158.keep [(3, .string (Bs x_107_Name)), (9, Sl.v l_1), (10, .int .i64 (l_1.n : Int)), (11, .int .i64 x_19)] ⟨rfl, rfl, rfl, rfl, trivial⟩
        refine block_normal ?_
        refine then_normal ?_
        refine wp_region_lit ?_
        obtain ⟨hS161, ht162⟩ := ht153
        refine sq (opk_val hA159 rfl (r_addI (hA159.get rfl) rfl hS161) fun a160 hA160 _ => ?_)
        refine sq (opk_val hA160 rfl (r_move (hA160.get rfl)) fun a163 hA163 _ => ?_)
        refine sq_end ?_
        have hA164 := hA163.keep [(3, .string (Bs x_107_Name)), (9, Sl.v l_1), (10, .int .i64 (l_1.n : Int)), (11, .int .i64 (x_19 + 1))] ⟨rfl, rfl, rfl, rfl, trivial⟩
        have hA165 := hA164.keep [(3, .string (Bs x_107_Name)), (9, Sl.v l_1), (10, .int .i64 (l_1.n : Int)), (11, .int .i64 (x_19 + 1))] ⟨rfl, rfl, rfl, rfl, trivial⟩
        exact then_normal ⟨(x_107_Name, x_19 + 1, w136), ⟨hA165, rfl, ht162.1⟩, ht162.2⟩
    · have ht100 := ht95.2 (of_decide_eq_false hc)
      clear hc
      refine wp_exit ?_
      refine then_exit ?_
      refine then_exit ?_
      refine block_hit ?_
      have hA166 := hA98.keep [] trivial
      refine then_normal ?_
      refine wp_seq ?_
      refine wp_region_lit ?_
      refine sq (opk_val hA166 rfl (r_assign rfl) fun a167 hA167 _ => ?_)
      refine sq_end ?_
      have hA168 := hA167.keep [(2, .bool true)] ⟨rfl, trivial⟩
      refine then_normal ?_
      refine wp_ret ?_
      exact res_all (vs := [.bool true]) rfl hA168 ⟨res_of_tmp hA168 rfl, trivial⟩ ht100

end Go.Proofs.Ytghmgfkdnolcdaa
