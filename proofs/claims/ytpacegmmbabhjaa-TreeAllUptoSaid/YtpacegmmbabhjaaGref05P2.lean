/-
  PRINTED BY PROGRAM: for each function its condition (vc), and that this suffices (ok).
-/
import Derived.Test.YtpacegmmbabhjaaGT
namespace Go.Proofs.Ytpacegmmbabhjaa
open Go.RowKit
set_option linter.unusedVariables false

/-- The condition of topiary/topiaryref05.Node. -/
def ref05_Node.vc (a_1_Kind : Int) (a_1_Name : Str) (a_1_Text : Str) (a_1_Attrs : Sl) (a_1_Kids : Sl) (b_2_Kind : Int) (b_2_Name : Str) (b_2_Text : Str) (b_2_Attrs : Sl) (b_2_Kids : Sl) (R : Value → World → Prop) (w : World) : Prop :=
∀ (w12 : World) (B_3 : Nat) (B_11 : Nat), New w B_3 w12 → New w B_11 w12 → B_3 ≠ B_11 → Chg [] w w12 →
CallK Try.prog 46 #[.bool (decide (a_1_Kind < b_2_Kind)), .bool (decide (b_2_Kind < a_1_Kind))] w12 [B_3, B_11] (fun v w37 => ∃ (r_35 : Int), v = .int .i64 r_35 ∧
∃ J_76 : Int → World → Prop,
(((r_35 = 0) →
CallK Try.prog 46 #[.bool (Op.bytesLess a_1_Name b_2_Name), .bool (!((Op.bytesLess a_1_Name b_2_Name) || (decide (a_1_Name = b_2_Name))))] w37 [B_3, B_11] (fun v w93 => ∃ (r_91 : Int), v = .int .i64 r_91 ∧
J_76 r_91 w93)) ∧
((¬ (r_35 = 0)) →
J_76 r_35 w37)) ∧
(∀ (c_74 : Int) (w75 : World), J_76 c_74 w75 →
∃ J_138 : Int → World → Prop,
(((c_74 = 0) →
CallK Try.prog 46 #[.bool (Op.bytesLess a_1_Text b_2_Text), .bool (!((Op.bytesLess a_1_Text b_2_Text) || (decide (a_1_Text = b_2_Text))))] w75 [B_3, B_11] (fun v w155 => ∃ (r_153 : Int), v = .int .i64 r_153 ∧
J_138 r_153 w155)) ∧
((¬ (c_74 = 0)) →
J_138 c_74 w75)) ∧
(∀ (c_136 : Int) (w137 : World), J_138 c_136 w137 →
∃ (J_176 : Int → Int → World → Prop) (mu_177 : Int → Int → World → Nat),
J_176 c_136 0 w137 ∧
(∀ (c_173 : Int) (i_174 : Int) (w175 : World), J_176 c_173 i_174 w175 →
((((c_173 = 0) ∧ (i_174 < (a_1_Attrs.n : Int))) ∧ (i_174 < (b_2_Attrs.n : Int))) →
∀ (w399 : World), Chg [] w175 w399 →
∃ p_405 : Addr, (((0 : Int) ≤ i_174 ∧ i_174 < (a_1_Attrs.n : Int)) ∧ a_1_Attrs.a = some p_405) ∧
∃ (x_408_Name : Str) (x_408_Value : Str), (Cells w399 (p_405.add (i_174.toNat * 2)) [.string (Bs x_408_Name), .string (Bs x_408_Value)]) ∧
∃ p_411 : Addr, (((0 : Int) ≤ i_174 ∧ i_174 < (b_2_Attrs.n : Int)) ∧ b_2_Attrs.a = some p_411) ∧
∃ (x_414_Name : Str) (x_414_Value : Str), (Cells w399 (p_411.add (i_174.toNat * 2)) [.string (Bs x_414_Name), .string (Bs x_414_Value)]) ∧
∀ (w436 : World) (B_417 : Nat) (B_422 : Nat), Ext w399 w436 → w399.heap.size ≤ B_417 → Box w436 B_417 33 [.string (Bs ([] : Str)), .string (Bs ([] : Str))] → w399.heap.size ≤ B_422 → Box w436 B_422 33 [.string (Bs ([] : Str)), .string (Bs ([] : Str))] → 
∀ (w503 : World), Chg [B_422, B_417] w436 w503 →
CallK Try.prog 46 #[.bool ((Op.bytesLess x_408_Name x_414_Name) || ((decide (x_408_Name = x_414_Name)) && (Op.bytesLess x_408_Value x_414_Value))), .bool ((!((Op.bytesLess x_408_Name x_414_Name) || (decide (x_408_Name = x_414_Name)))) || ((decide (x_408_Name = x_414_Name)) && (!((Op.bytesLess x_408_Value x_414_Value) || (decide (x_408_Value = x_414_Value))))))] w503 [B_3, B_11, B_417, B_422] (fun v w554 => ∃ (r_552 : Int), v = .int .i64 r_552 ∧
(I64 (i_174 + 1)) ∧
J_176 r_552 (i_174 + 1) w554 ∧ mu_177 r_552 (i_174 + 1) w554 < mu_177 c_173 i_174 w175)) ∧
((((¬ (c_173 = 0)) ∨ (¬ (i_174 < (a_1_Attrs.n : Int)))) ∨ (¬ (i_174 < (b_2_Attrs.n : Int)))) →
((c_173 = 0) →
CallK Try.prog 46 #[.bool (decide ((a_1_Attrs.n : Int) < (b_2_Attrs.n : Int))), .bool (decide ((b_2_Attrs.n : Int) < (a_1_Attrs.n : Int)))] w175 [B_3, B_11] (fun v w595 => ∃ (r_593 : Int), v = .int .i64 r_593 ∧
R (.int .i64 r_593) w595)) ∧
((¬ (c_173 = 0)) →
R (.int .i64 c_173) w175))))))
set_option maxHeartbeats 1000000 in
set_option maxRecDepth 10000 in
theorem ref05_Node.ok (a_1_Kind : Int) (a_1_Name : Str) (a_1_Text : Str) (a_1_Attrs : Sl) (a_1_Kids : Sl) (b_2_Kind : Int) (b_2_Name : Str) (b_2_Text : Str) (b_2_Attrs : Sl) (b_2_Kids : Sl) {R : Value → World → Prop} {w : World} (ht0 : ref05_Node.vc a_1_Kind a_1_Name a_1_Text a_1_Attrs a_1_Kids b_2_Kind b_2_Name b_2_Text b_2_Attrs b_2_Kids R w) : Calls Try.prog 45 #[.agg #[.int .i64 a_1_Kind, .string (Bs a_1_Name), .string (Bs a_1_Text), Sl.v a_1_Attrs, Sl.v a_1_Kids], .agg #[.int .i64 b_2_Kind, .string (Bs b_2_Name), .string (Bs b_2_Text), Sl.v b_2_Attrs, Sl.v b_2_Kids]] w (Ret R) := by
  refine enter [.agg #[.int .i64 a_1_Kind, .string (Bs a_1_Name), .string (Bs a_1_Text), Sl.v a_1_Attrs, Sl.v a_1_Kids], .agg #[.int .i64 b_2_Kind, .string (Bs b_2_Name), .string (Bs b_2_Text), Sl.v b_2_Attrs, Sl.v b_2_Kids]] Try.func45 rfl Try.ntmps45 rfl ?_
  intro a0 hA0
  unfold ref05_Node.vc at ht0
  refine wp_seq ?_
  refine wp_region_lit ?_
  refine sq (opk_new (fun B => .pointer (some ⟨B, 0, none⟩)) hA0 rfl (r_box (cs := [.int .i64 a_1_Kind, .string (Bs a_1_Name), .string (Bs a_1_Text), Sl.v a_1_Attrs, Sl.v a_1_Kids]) (hA0.get rfl) rfl) fun a5 w4 B_3 hE6 hN7 hB8 hA5 _ => ?_)
  have hN9 : New w B_3 w4 := hN7
  have hC10 : Chg [] w w4 := hE6
  refine sq (opk_new (fun B => .pointer (some ⟨B, 0, none⟩)) hA5 rfl (r_box (cs := [.int .i64 b_2_Kind, .string (Bs b_2_Name), .string (Bs b_2_Text), Sl.v b_2_Attrs, Sl.v b_2_Kids]) (hA5.get rfl) rfl) fun a13 w12 B_11 hE14 hN15 hB16 hA13 _ => ?_)
  have hne17 : B_3 ≠ B_11 := Nat.ne_of_lt (Nat.lt_of_lt_of_le hB8.lt hN15.ge)
  have hN18 := New.of hC10 hN15
  have hB19 := hB8.ext hE14
  have hC20 := hC10.more hE14
  have hN21 := hN9.up hE14.size
  refine sq (opk_val hA13 rfl (r_assign rfl) fun a22 hA22 _ => ?_)
  refine sq_end ?_
  have hA23 := hA22.keep [(2, .pointer (some (⟨B_3, 0, none⟩ : Addr))), (3, .pointer (some (⟨B_11, 0, none⟩ : Addr)))] ⟨rfl, rfl, trivial⟩
  refine then_normal ?_
  refine wp_seq ?_
  refine wp_region_lit ?_
  refine sq (opk_val hA23 rfl (r_fieldAddr (hA23.get rfl) Try.underlying26 rfl ti_3 (by decide)) fun a24 hA24 _ => ?_)
  refine sq (opk_val hA24 rfl (r_load1 Try.underlying3 rfl (hA24.get rfl) (hB19.cell 0 _ rfl)) fun a25 hA25 _ => ?_)
  refine sq (opk_val hA25 rfl (r_fieldAddr (hA25.get rfl) Try.underlying26 rfl ti_3 (by decide)) fun a26 hA26 _ => ?_)
  refine sq (opk_val hA26 rfl (r_load1 Try.underlying3 rfl (hA26.get rfl) (hB16.cell 0 _ rfl)) fun a27 hA27 _ => ?_)
  refine sq (opk_val hA27 rfl (r_lss (hA27.get rfl) (hA27.get rfl)) fun a28 hA28 _ => ?_)
  refine sq (opk_val hA28 rfl (r_fieldAddr (hA28.get rfl) Try.underlying26 rfl ti_3 (by decide)) fun a29 hA29 _ => ?_)
  refine sq (opk_val hA29 rfl (r_load1 Try.underlying3 rfl (hA29.get rfl) (hB19.cell 0 _ rfl)) fun a30 hA30 _ => ?_)
  refine sq (opk_val hA30 rfl (r_fieldAddr (hA30.get rfl) Try.underlying26 rfl ti_3 (by decide)) fun a31 hA31 _ => ?_)
  refine sq (opk_val hA31 rfl (r_load1 Try.underlying3 rfl (hA31.get rfl) (hB16.cell 0 _ rfl)) fun a32 hA32 _ => ?_)
  refine sq (opk_val hA32 rfl (r_gtr (hA32.get rfl) (hA32.get rfl)) fun a33 hA33 _ => ?_)
  have ht34 := ht0 w12 B_3 B_11 hN21 hN18 hne17 hC20
  refine sq (opk_call hA33 rfl (r_call (args := #[.bool (decide (a_1_Kind < b_2_Kind)), .bool (decide (b_2_Kind < a_1_Kind))]) Try.func46 (by decide) rfl (map_arr (ml_cons (hA33.get rfl) (ml_cons (hA33.get rfl) ml_nil))) rfl) ht34 fun a36 v42 w37 hA36 _ hn39 hz40 hK41 => ?_)
  obtain ⟨r_35, rfl, ht38⟩ := hK41
  have hB43 := hB19.kept hn39 (.head _)
  have hB44 := hB16.kept hn39 (.tail _ (.head _))
  refine sq (opk_val hA36 rfl (r_assign (hA36.get rfl)) fun a45 hA45 _ => ?_)
  refine sq_end ?_
  have hA46 := hA45.keep [(2, .pointer (some (⟨B_3, 0, none⟩ : Addr))), (3, .pointer (some (⟨B_11, 0, none⟩ : Addr))), (5, .int .i64 r_35)] ⟨rfl, rfl, rfl, trivial⟩
  refine then_normal ?_
  refine wp_seq ?_
  refine wp_seq ?_
  refine wp_region_lit ?_
  refine sq (opk_val hA46 rfl (r_move (hA46.get rfl)) fun a47 hA47 _ => ?_)
  refine sq (opk_val hA47 rfl (r_eql (hA47.get rfl) rfl) fun a48 hA48 _ => ?_)
  refine sq_end ?_
  have hA49 := hA48.keep [(2, .pointer (some (⟨B_3, 0, none⟩ : Addr))), (3, .pointer (some (⟨B_11, 0, none⟩ : Addr))), (5, .int .i64 r_35), (21, .bool (decide (r_35 = 0)))] ⟨rfl, rfl, rfl, rfl, trivial⟩
  refine then_normal ?_
  obtain ⟨J_76, ht77, hr78⟩ := ht38
  refine wp_meet (fun a w => ∃ c_74 : Int, Ag 131 a [(2, .pointer (some (⟨B_3, 0, none⟩ : Addr))), (3, .pointer (some (⟨B_11, 0, none⟩ : Addr))), (5, .int .i64 c_74)] ∧ Box w B_3 26 [.int .i64 a_1_Kind, .string (Bs a_1_Name), .string (Bs a_1_Text), Sl.v a_1_Attrs, Sl.v a_1_Kids] ∧ Box w B_11 26 [.int .i64 b_2_Kind, .string (Bs b_2_Name), .string (Bs b_2_Text), Sl.v b_2_Attrs, Sl.v b_2_Kids] ∧ J_76 c_74 w) ?_ ?_
  · refine wp_cond_split (hA49.get rfl) (fun hc => ?_) (fun hc => ?_)
    · have ht79 := ht77.1 (of_decide_eq_true hc)
      clear hc
      refine wp_region_lit ?_
      refine sq (opk_val hA49 rfl (r_fieldAddr (hA49.get rfl) Try.underlying26 rfl ti_9 (by decide)) fun a81 hA81 _ => ?_)
      refine sq (opk_val hA81 rfl (r_load1 Try.underlying9 rfl (hA81.get rfl) (hB43.cell 1 _ rfl)) fun a82 hA82 _ => ?_)
      refine sq (opk_val hA82 rfl (r_fieldAddr (hA82.get rfl) Try.underlying26 rfl ti_9 (by decide)) fun a83 hA83 _ => ?_)
      refine sq (opk_val hA83 rfl (r_load1 Try.underlying9 rfl (hA83.get rfl) (hB44.cell 1 _ rfl)) fun a84 hA84 _ => ?_)
      refine sq (opk_val hA84 rfl (r_slss (hA84.get rfl) (hA84.get rfl)) fun a85 hA85 _ => ?_)
      refine sq (opk_val hA85 rfl (r_fieldAddr (hA85.get rfl) Try.underlying26 rfl ti_9 (by decide)) fun a86 hA86 _ => ?_)
      refine sq (opk_val hA86 rfl (r_load1 Try.underlying9 rfl (hA86.get rfl) (hB43.cell 1 _ rfl)) fun a87 hA87 _ => ?_)
      refine sq (opk_val hA87 rfl (r_fieldAddr (hA87.get rfl) Try.underlying26 rfl ti_9 (by decide)) fun a88 hA88 _ => ?_)
      refine sq (opk_val hA88 rfl (r_load1 Try.underlying9 rfl (hA88.get rfl) (hB44.cell 1 _ rfl)) fun a89 hA89 _ => ?_)
      refine sq (opk_val hA89 rfl (r_sgtr (hA89.get rfl) (hA89.get rfl)) fun a90 hA90 _ => ?_)
      refine sq (opk_call hA90 rfl (r_call (args := #[.bool (Op.bytesLess a_1_Name b_2_Name), .bool (!((Op.bytesLess a_1_Name b_2_Name) || (decide (a_1_Name = b_2_Name))))]) Try.func46 (by decide) rfl (map_arr (ml_cons (hA90.get rfl) (ml_cons (hA90.get rfl) ml_nil))) rfl) ht79 fun a92 v98 w93 hA92 _ hn95 hz96 hK97 => ?_)
      obtain ⟨r_91, rfl, ht94⟩ := hK97
      have hB99 := hB43.kept hn95 (.head _)
      have hB100 := hB44.kept hn95 (.tail _ (.head _))
      refine sq (opk_val hA92 rfl (r_assign (hA92.get rfl)) fun a101 hA101 _ => ?_)
      refine sq_end ?_
      have hA102 := hA101.keep [(2, .pointer (some (⟨B_3, 0, none⟩ : Addr))), (3, .pointer (some (⟨B_11, 0, none⟩ : Addr))), (5, .int .i64 r_91)] ⟨rfl, rfl, rfl, trivial⟩
      have hA103 := hA102.keep [(2, .pointer (some (⟨B_3, 0, none⟩ : Addr))), (3, .pointer (some (⟨B_11, 0, none⟩ : Addr))), (5, .int .i64 r_91)] ⟨rfl, rfl, rfl, trivial⟩
      exact then_normal ⟨r_91, hA103, hB99, hB100, ht94⟩
    · have ht80 := ht77.2 (of_decide_eq_false hc)
      clear hc
      refine wp_skip ?_
      have hA104 := hA49.keep [(2, .pointer (some (⟨B_3, 0, none⟩ : Addr))), (3, .pointer (some (⟨B_11, 0, none⟩ : Addr))), (5, .int .i64 r_35)] ⟨rfl, rfl, rfl, trivial⟩
      exact then_normal ⟨r_35, hA104, hB43, hB44, ht80⟩
  · intro a105 w75 hm
    obtain ⟨c_74, hA105, hB106, hB107, hJ612⟩ := hm
    have ht108 := hr78 c_74 w75 hJ612
    refine then_normal ?_
    refine wp_seq ?_
    refine wp_seq ?_
    refine wp_region_lit ?_
    refine sq (opk_val hA105 rfl (r_move (hA105.get rfl)) fun a109 hA109 _ => ?_)
    refine sq (opk_val hA109 rfl (r_eql (hA109.get rfl) rfl) fun a110 hA110 _ => ?_)
    refine sq_end ?_
    have hA111 := hA110.keep [(2, .pointer (some (⟨B_3, 0, none⟩ : Addr))), (3, .pointer (some (⟨B_11, 0, none⟩ : Addr))), (5, .int .i64 c_74), (34, .bool (decide (c_74 = 0)))] ⟨rfl, rfl, rfl, rfl, trivial⟩
    refine then_normal ?_
    obtain ⟨J_138, ht139, hr140⟩ := ht108
    refine wp_meet (fun a w => ∃ c_136 : Int, Ag 131 a [(2, .pointer (some (⟨B_3, 0, none⟩ : Addr))), (3, .pointer (some (⟨B_11, 0, none⟩ : Addr))), (5, .int .i64 c_136)] ∧ Box w B_3 26 [.int .i64 a_1_Kind, .string (Bs a_1_Name), .string (Bs a_1_Text), Sl.v a_1_Attrs, Sl.v a_1_Kids] ∧ Box w B_11 26 [.int .i64 b_2_Kind, .string (Bs b_2_Name), .string (Bs b_2_Text), Sl.v b_2_Attrs, Sl.v b_2_Kids] ∧ J_138 c_136 w) ?_ ?_
    · refine wp_cond_split (hA111.get rfl) (fun hc => ?_) (fun hc => ?_)
      · have ht141 := ht139.1 (of_decide_eq_true hc)
        clear hc
        refine wp_region_lit ?_
        refine sq (opk_val hA111 rfl (r_fieldAddr (hA111.get rfl) Try.underlying26 rfl ti_9 (by decide)) fun a143 hA143 _ => ?_)
        refine sq (opk_val hA143 rfl (r_load1 Try.underlying9 rfl (hA143.get rfl) (hB106.cell 2 _ rfl)) fun a144 hA144 _ => ?_)
        refine sq (opk_val hA144 rfl (r_fieldAddr (hA144.get rfl) Try.underlying26 rfl ti_9 (by decide)) fun a145 hA145 _ => ?_)
        refine sq (opk_val hA145 rfl (r_load1 Try.underlying9 rfl (hA145.get rfl) (hB107.cell 2 _ rfl)) fun a146 hA146 _ => ?_)
        refine sq (opk_val hA146 rfl (r_slss (hA146.get rfl) (hA146.get rfl)) fun a147 hA147 _ => ?_)
        refine sq (opk_val hA147 rfl (r_fieldAddr (hA147.get rfl) Try.underlying26 rfl ti_9 (by decide)) fun a148 hA148 _ => ?_)
        refine sq (opk_val hA148 rfl (r_load1 Try.underlying9 rfl (hA148.get rfl) (hB106.cell 2 _ rfl)) fun a149 hA149 _ => ?_)
        refine sq (opk_val hA149 rfl (r_fieldAddr (hA149.get rfl) Try.underlying26 rfl ti_9 (by decide)) fun a150 hA150 _ => ?_)
        refine sq (opk_val hA150 rfl (r_load1 Try.underlying9 rfl (hA150.get rfl) (hB107.cell 2 _ rfl)) fun a151 hA151 _ => ?_)
        refine sq (opk_val hA151 rfl (r_sgtr (hA151.get rfl) (hA151.get rfl)) fun a152 hA152 _ => ?_)
        refine sq (opk_call hA152 rfl (r_call (args := #[.bool (Op.bytesLess a_1_Text b_2_Text), .bool (!((Op.bytesLess a_1_Text b_2_Text) || (decide (a_1_Text = b_2_Text))))]) Try.func46 (by decide) rfl (map_arr (ml_cons (hA152.get rfl) (ml_cons (hA152.get rfl) ml_nil))) rfl) ht141 fun a154 v160 w155 hA154 _ hn157 hz158 hK159 => ?_)
        obtain ⟨r_153, rfl, ht156⟩ := hK159
        have hB161 := hB106.kept hn157 (.head _)
        have hB162 := hB107.kept hn157 (.tail _ (.head _))
        refine sq (opk_val hA154 rfl (r_assign (hA154.get rfl)) fun a163 hA163 _ => ?_)
        refine sq_end ?_
        have hA164 := hA163.keep [(2, .pointer (some (⟨B_3, 0, none⟩ : Addr))), (3, .pointer (some (⟨B_11, 0, none⟩ : Addr))), (5, .int .i64 r_153)] ⟨rfl, rfl, rfl, trivial⟩
        have hA165 := hA164.keep [(2, .pointer (some (⟨B_3, 0, none⟩ : Addr))), (3, .pointer (some (⟨B_11, 0, none⟩ : Addr))), (5, .int .i64 r_153)] ⟨rfl, rfl, rfl, trivial⟩
        exact then_normal ⟨r_153, hA165, hB161, hB162, ht156⟩
      · have ht142 := ht139.2 (of_decide_eq_false hc)
        clear hc
        refine wp_skip ?_
        have hA166 := hA111.keep [(2, .pointer (some (⟨B_3, 0, none⟩ : Addr))), (3, .pointer (some (⟨B_11, 0, none⟩ : Addr))), (5, .int .i64 c_74)] ⟨rfl, rfl, rfl, trivial⟩
        exact then_normal ⟨c_74, hA166, hB106, hB107, ht142⟩
    · intro a167 w137 hm
      obtain ⟨c_136, hA167, hB168, hB169, hJ611⟩ := hm
      have ht170 := hr140 c_136 w137 hJ611
      refine then_normal ?_
      refine wp_seq ?_
      refine wp_seq ?_
      refine wp_region_lit ?_
      refine sq (opk_val hA167 rfl (r_assign rfl) fun a171 hA171 _ => ?_)
      refine sq_end ?_
      have hA172 := hA171.keep [(2, .pointer (some (⟨B_3, 0, none⟩ : Addr))), (3, .pointer (some (⟨B_11, 0, none⟩ : Addr))), (5, .int .i64 c_136), (6, .int .i64 0)] ⟨rfl, rfl, rfl, rfl, trivial⟩
      refine then_normal ?_
      refine wp_block ?_
      obtain ⟨J_176, mu_177, h0377, ht376⟩ := ht170
      refine wp_loop_st (σ := Int × Int × World) (fun s a w => Ag 131 a [(2, .pointer (some (⟨B_3, 0, none⟩ : Addr))), (3, .pointer (some (⟨B_11, 0, none⟩ : Addr))), (5, .int .i64 s.1), (6, .int .i64 s.2.1)] ∧ Box w B_3 26 [.int .i64 a_1_Kind, .string (Bs a_1_Name), .string (Bs a_1_Text), Sl.v a_1_Attrs, Sl.v a_1_Kids] ∧ Box w B_11 26 [.int .i64 b_2_Kind, .string (Bs b_2_Name), .string (Bs b_2_Text), Sl.v b_2_Attrs, Sl.v b_2_Kids] ∧ w = s.2.2 ∧ J_176 s.1 s.2.1 s.2.2) (fun s => mu_177 s.1 s.2.1 s.2.2) (c_136, 0, w137) ⟨hA172.keep [(2, .pointer (some (⟨B_3, 0, none⟩ : Addr))), (3, .pointer (some (⟨B_11, 0, none⟩ : Addr))), (5, .int .i64 c_136), (6, .int .i64 0)] ⟨rfl, rfl, rfl, rfl, trivial⟩, hB168, hB169, rfl, h0377⟩ ?_
      rintro ⟨c_173, i_174, w175⟩ a373 w_ ⟨hA373, hB374, hB375, hw_, hJ379⟩
      have hw_ : w175 = w_ := hw_.symm
      subst hw_
      have ht378 := ht376 c_173 i_174 _ hJ379
      refine wp_seq ?_
      refine wp_seq ?_
      refine wp_region_lit ?_
      refine sq (opk_val hA373 rfl (r_move (hA373.get rfl)) fun a380 hA380 _ => ?_)
      refine sq (opk_val hA380 rfl (r_eql (hA380.get rfl) rfl) fun a381 hA381 _ => ?_)
      refine sq (opk_val hA381 rfl (r_move (hA381.get rfl)) fun a382 hA382 _ => ?_)
      refine sq (opk_gval hA382 rfl rfl (g := true) (e := (decide (c_173 = 0))) rfl (fun hg => r_move (hA382.get rfl)) fun a383 hA383 _ => ?_)
      refine sq (opk_gval hA383 rfl rfl (g := true) (e := (decide (c_173 = 0))) rfl (fun hg => r_fieldAddr (hA383.get rfl) Try.underlying26 rfl ti_23 (by decide)) fun a384 hA384 _ => ?_)
      refine sq (opk_gval hA384 rfl rfl (g := true) (e := (decide (c_173 = 0))) rfl (fun hg => r_load1 Try.underlying23 rfl (cv_get (hA384.get rfl) hg) (hB374.cell 3 _ rfl)) fun a385 hA385 _ => ?_)
      refine sq (opk_gval hA385 rfl rfl (g := true) (e := (decide (c_173 = 0))) rfl (fun hg => r_len (cv_get (hA385.get rfl) hg) Try.underlying23) fun a386 hA386 _ => ?_)
      refine sq (opk_gval hA386 rfl rfl (g := true) (e := (decide (c_173 = 0))) rfl (fun hg => r_lss (cv_get (hA386.get rfl) hg) (cv_get (hA386.get rfl) hg)) fun a387 hA387 _ => ?_)
      refine sq (opk_val hA387 rfl (r_pick_and (g := (true && ((decide (c_173 = 0)) == true))) (hA387.get rfl) (hA387.get rfl) (fun he => g_mkt rfl he)) fun a388 hA388 _ => ?_)
      refine sq (opk_val hA388 rfl (r_move (hA388.get rfl)) fun a389 hA389 _ => ?_)
      refine sq (opk_gval hA389 rfl rfl (g := true) (e := ((decide (c_173 = 0)) && (decide (i_174 < (a_1_Attrs.n : Int))))) rfl (fun hg => r_move (hA389.get rfl)) fun a390 hA390 _ => ?_)
      refine sq (opk_gval hA390 rfl rfl (g := true) (e := ((decide (c_173 = 0)) && (decide (i_174 < (a_1_Attrs.n : Int))))) rfl (fun hg => r_fieldAddr (hA390.get rfl) Try.underlying26 rfl ti_23 (by decide)) fun a391 hA391 _ => ?_)
      refine sq (opk_gval hA391 rfl rfl (g := true) (e := ((decide (c_173 = 0)) && (decide (i_174 < (a_1_Attrs.n : Int))))) rfl (fun hg => r_load1 Try.underlying23 rfl (cv_get (hA391.get rfl) hg) (hB375.cell 3 _ rfl)) fun a392 hA392 _ => ?_)
      refine sq (opk_gval hA392 rfl rfl (g := true) (e := ((decide (c_173 = 0)) && (decide (i_174 < (a_1_Attrs.n : Int))))) rfl (fun hg => r_len (cv_get (hA392.get rfl) hg) Try.underlying23) fun a393 hA393 _ => ?_)
      refine sq (opk_gval hA393 rfl rfl (g := true) (e := ((decide (c_173 = 0)) && (decide (i_174 < (a_1_Attrs.n : Int))))) rfl (fun hg => r_lss (cv_get (hA393.get rfl) hg) (cv_get (hA393.get rfl) hg)) fun a394 hA394 _ => ?_)
      refine sq (opk_val hA394 rfl (r_pick_and (g := (true && (((decide (c_173 = 0)) && (decide (i_174 < (a_1_Attrs.n : Int)))) == true))) (hA394.get rfl) (hA394.get rfl) (fun he => g_mkt rfl he)) fun a395 hA395 _ => ?_)
      refine sq_end ?_
      have hA396 := hA395.keep [(2, .pointer (some (⟨B_3, 0, none⟩ : Addr))), (3, .pointer (some (⟨B_11, 0, none⟩ : Addr))), (5, .int .i64 c_173), (6, .int .i64 i_174), (61, .bool (((decide (c_173 = 0)) && (decide (i_174 < (a_1_Attrs.n : Int)))) && (decide (i_174 < (b_2_Attrs.n : Int)))))] ⟨rfl, rfl, rfl, rfl, rfl, trivial⟩
      refine then_normal ?_
      refine wp_cond_split (hA396.get rfl) (fun hc => ?_) (fun hc => ?_)
      · have ht397 := ht378.1 ⟨⟨(of_decide_eq_true (b_and_t (b_and_t hc).1).1), (of_decide_eq_true (b_and_t (b_and_t hc).1).2)⟩, (of_decide_eq_true (b_and_t hc).2)⟩
        clear hc
        refine wp_skip ?_
        refine then_normal ?_
        refine wp_seq ?_
        refine wp_block ?_
        refine wp_seq ?_
        refine draw' (by kernel_rfl) fun w399 hE400 => ?_
        have hB401 := hB374.ext hE400
        have hB402 := hB375.ext hE400
        have hC403 : Chg [] w175 w399 := hE400
        have ht404 := ht397 w399    hC403
        obtain ⟨p_405, hp406, ht407⟩ := ht404
        obtain ⟨x_408_Name, x_408_Value, hx409, ht410⟩ := ht407
        obtain ⟨p_411, hp412, ht413⟩ := ht410
        obtain ⟨x_414_Name, x_414_Value, hx415, ht416⟩ := ht413
        refine startF (D := [[], [0], [], [0, 1, 2], [0, 1, 2, 3], [], [5], [], [5, 6, 7], [5, 6, 7, 8], [], [], [0, 1, 2, 3, 4, 10, 11], [0, 1, 2, 3, 4, 5, 6, 7, 8, 9, 10, 11, 12]]) (Fs := [0, 1, 2, 3, 4, 5, 6, 7, 8, 9]) (Ef := [(0, fun v _ => v = .pointer (some (⟨B_3, 3, none⟩ : Addr))), (1, fun v _ => v = Sl.v a_1_Attrs), (2, fun v _ => v = .int .i64 i_174), (3, fun v _ => v = .pointer (some (p_405.add (i_174.toNat * 2)))), (4, fun v _ => v = .agg #[.string (Bs x_408_Name), .string (Bs x_408_Value)]), (5, fun v _ => v = .pointer (some (⟨B_11, 3, none⟩ : Addr))), (6, fun v _ => v = Sl.v b_2_Attrs), (7, fun v _ => v = .int .i64 i_174), (8, fun v _ => v = .pointer (some (p_411.add (i_174.toNat * 2)))), (9, fun v _ => v = .agg #[.string (Bs x_414_Name), .string (Bs x_414_Value)])]) (by kernel_rfl) ?_
        refine parFN (D := [[], [0], [], [0, 1, 2], [0, 1, 2, 3], [], [5], [], [5, 6, 7], [5, 6, 7, 8], [], [], [0, 1, 2, 3, 4, 10, 11], [0, 1, 2, 3, 4, 5, 6, 7, 8, 9, 10, 11, 12]]) (S := [10, 11]) (F := []) (KE := [10, 11]) (N := [10, 11]) (E := [(10, fun v w' => ∃ B_417 : Nat, w399.heap.size ≤ B_417 ∧ Box w' B_417 33 [.string (Bs ([] : Str)), .string (Bs ([] : Str))] ∧ v = .pointer (some (⟨B_417, 0, none⟩ : Addr))), (11, fun v w' => ∃ B_422 : Nat, w399.heap.size ≤ B_422 ∧ Box w' B_422 33 [.string (Bs ([] : Str)), .string (Bs ([] : Str))] ∧ v = .pointer (some (⟨B_422, 0, none⟩ : Addr)))]) hA396 rfl (by kernel_rfl) (blkF ⟨fun _ _ h => by obtain ⟨B_417, _, hB, rfl⟩ := h; exact hB.lt, fun _ _ h => by obtain ⟨B_422, _, hB, rfl⟩ := h; exact hB.lt, trivial⟩) ⟨fun _ _ _ hE ⟨B_417, h0_, h1_, e⟩ => ⟨B_417, h0_, (h1_.ext hE), e⟩, fun _ _ _ hE ⟨B_422, h0_, h1_, e⟩ => ⟨B_422, h0_, (h1_.ext hE), e⟩, fun _ _ _ _ h => by first | exact h | (change _ = _ at h; change _ = _; exact h), fun _ _ _ _ h => by first | exact h | (change _ = _ at h; change _ = _; exact h), fun _ _ _ _ h => by first | exact h | (change _ = _ at h; change _ = _; exact h), fun _ _ _ _ h => by first | exact h | (change _ = _ at h; change _ = _; exact h), fun _ _ _ _ h => by first | exact h | (change _ = _ at h; change _ = _; exact h), fun _ _ _ _ h => by first | exact h | (change _ = _ at h; change _ = _; exact h), fun _ _ _ _ h => by first | exact h | (change _ = _ at h; change _ = _; exact h), fun _ _ _ _ h => by first | exact h | (change _ = _ at h; change _ = _; exact h), fun _ _ _ _ h => by first | exact h | (change _ = _ at h; change _ = _; exact h), fun _ _ _ _ h => by first | exact h | (change _ = _ at h; change _ = _; exact h), trivial⟩ ⟨?_, ?_, ?_, ?_, ?_, ?_, ?_, ?_, ?_, ?_, ?_, ?_, trivial⟩ ?_
        · intro a w hT
          have hAp := hT.ag hA396 [] trivial (by kernel_rfl)
          exact opk_new (fun B => .pointer (some ⟨B, 0, none⟩)) hAp rfl (r_alloc (cs := [.string (Bs ([] : Str)), .string (Bs ([] : Str))]) ti_33 rfl) fun _ w418 B_417 hE419 hN420 hB421 _ e => ⟨_, e, hE419, fun _ => ⟨B_417, Nat.le_trans hT.chg.size hN420.ge, hB421, rfl⟩, fun _ => hN420.ge⟩
        · intro a w hT
          have hAp := hT.ag hA396 [] trivial (by kernel_rfl)
          exact opk_new (fun B => .pointer (some ⟨B, 0, none⟩)) hAp rfl (r_alloc (cs := [.string (Bs ([] : Str)), .string (Bs ([] : Str))]) ti_33 rfl) fun _ w423 B_422 hE424 hN425 hB426 _ e => ⟨_, e, hE424, fun _ => ⟨B_422, Nat.le_trans hT.chg.size hN425.ge, hB426, rfl⟩, fun _ => hN425.ge⟩
        · intro a w hT
          refine overN_of rfl ?_
          have hAp := hT.ag hA396 [(2, .pointer (some (⟨B_3, 0, none⟩ : Addr)))] ⟨rfl, trivial⟩ (by kernel_rfl)
          exact opk_val hAp rfl (r_fieldAddr (hAp.get rfl) Try.underlying26 rfl ti_23 (by decide)) fun _ _ e => ⟨_, e, Chg.refl _ _, fun _ => Eq.refl _⟩
        · intro a w hT
          refine overN_of rfl ?_
          have hAp := hT.ag hA396 [] trivial (by kernel_rfl)
          have e427 : a.tmps.getD 64 undef = .pointer (some (⟨B_3, 3, none⟩ : Addr)) := hT.vals 0 rfl 64 rfl
          have hAp := hAp.add e427
          exact opk_val hAp rfl (r_load1 Try.underlying23 rfl (hAp.get rfl) ((hB401.ext hT.chg).cell 3 _ rfl)) fun _ _ e => ⟨_, e, Chg.refl _ _, fun _ => Eq.refl _⟩
        · intro a w hT
          refine overN_of rfl ?_
          have hAp := hT.ag hA396 [(6, .int .i64 i_174)] ⟨rfl, trivial⟩ (by kernel_rfl)
          exact opk_val hAp rfl (r_move (hAp.get rfl)) fun _ _ e => ⟨_, e, Chg.refl _ _, fun _ => Eq.refl _⟩
        · intro a w hT
          refine overN_of rfl ?_
          have hAp := hT.ag hA396 [] trivial (by kernel_rfl)
          have e428 : a.tmps.getD 65 undef = Sl.v a_1_Attrs := hT.vals 1 rfl 65 rfl
          have hAp := hAp.add e428
          have e429 : a.tmps.getD 66 undef = .int .i64 i_174 := hT.vals 2 rfl 66 rfl
          have hAp := hAp.add e429
          exact opk_val hAp rfl (r_indexAddr (hAp.get rfl) (hAp.get rfl) Try.underlying23 ti_33 hp406.1 hp406.2) fun _ _ e => ⟨_, e, Chg.refl _ _, fun _ => Eq.refl _⟩
        · intro a w hT
          refine overN_of rfl ?_
          have hAp := hT.ag hA396 [] trivial (by kernel_rfl)
          have e430 : a.tmps.getD 67 undef = .pointer (some (p_405.add (i_174.toNat * 2))) := hT.vals 3 rfl 67 rfl
          have hAp := hAp.add e430
          exact opk_val hAp rfl (r_loadN Try.underlying33 rfl ti_33 (hAp.get rfl) (hx409.ext hT.chg)) fun _ _ e => ⟨_, e, Chg.refl _ _, fun _ => Eq.refl _⟩
        · intro a w hT
          refine overN_of rfl ?_
          have hAp := hT.ag hA396 [(3, .pointer (some (⟨B_11, 0, none⟩ : Addr)))] ⟨rfl, trivial⟩ (by kernel_rfl)
          exact opk_val hAp rfl (r_fieldAddr (hAp.get rfl) Try.underlying26 rfl ti_23 (by decide)) fun _ _ e => ⟨_, e, Chg.refl _ _, fun _ => Eq.refl _⟩
        · intro a w hT
          refine overN_of rfl ?_
          have hAp := hT.ag hA396 [] trivial (by kernel_rfl)
          have e431 : a.tmps.getD 69 undef = .pointer (some (⟨B_11, 3, none⟩ : Addr)) := hT.vals 5 rfl 69 rfl
          have hAp := hAp.add e431
          exact opk_val hAp rfl (r_load1 Try.underlying23 rfl (hAp.get rfl) ((hB402.ext hT.chg).cell 3 _ rfl)) fun _ _ e => ⟨_, e, Chg.refl _ _, fun _ => Eq.refl _⟩
        · intro a w hT
          refine overN_of rfl ?_
          have hAp := hT.ag hA396 [(6, .int .i64 i_174)] ⟨rfl, trivial⟩ (by kernel_rfl)
          exact opk_val hAp rfl (r_move (hAp.get rfl)) fun _ _ e => ⟨_, e, Chg.refl _ _, fun _ => Eq.refl _⟩
        · intro a w hT
          refine overN_of rfl ?_
          have hAp := hT.ag hA396 [] trivial (by kernel_rfl)
          have e432 : a.tmps.getD 70 undef = Sl.v b_2_Attrs := hT.vals 6 rfl 70 rfl
          have hAp := hAp.add e432
          have e433 : a.tmps.getD 71 undef = .int .i64 i_174 := hT.vals 7 rfl 71 rfl
          have hAp := hAp.add e433
          exact opk_val hAp rfl (r_indexAddr (hAp.get rfl) (hAp.get rfl) Try.underlying23 ti_33 hp412.1 hp412.2) fun _ _ e => ⟨_, e, Chg.refl _ _, fun _ => Eq.refl _⟩
        · intro a w hT
          refine overN_of rfl ?_
          have hAp := hT.ag hA396 [] trivial (by kernel_rfl)
          have e434 : a.tmps.getD 72 undef = .pointer (some (p_411.add (i_174.toNat * 2))) := hT.vals 8 rfl 72 rfl
          have hAp := hAp.add e434
          exact opk_val hAp rfl (r_loadN Try.underlying33 rfl ti_33 (hAp.get rfl) (hx415.ext hT.chg)) fun _ _ e => ⟨_, e, Chg.refl _ _, fun _ => Eq.refl _⟩
        · intro a435 w436 hE437 hag438 hv439 hap440
          have hA435 := hag438 [(2, .pointer (some (⟨B_3, 0, none⟩ : Addr))), (3, .pointer (some (⟨B_11, 0, none⟩ : Addr))), (6, .int .i64 i_174)] ⟨rfl, rfl, rfl, trivial⟩ (by kernel_rfl)
          obtain ⟨B_417, hf443, hf444, e441⟩ := hv439 10 rfl 7 rfl
          have hA442 := hA435.add e441
          obtain ⟨B_422, hf447, hf448, e445⟩ := hv439 11 rfl 8 rfl
          have hA446 := hA442.add e445
          have hne449 : B_417 ≠ B_422 := by have h := hap440 10 11 rfl 7 8 rfl rfl; rw [e441, e445] at h; exact h
          have hB450 := hB401.ext hE437
          have hB451 := hB402.ext hE437
          have hC452 : Chg [] w399 w436 := hE437
          have hf453 := hx409.ext hE437
          have hf454 := hx415.ext hE437
          have ht455 := ht416 w436 B_417 B_422 hE437 hf443 hf444 hf447 hf448
          have hne456 : B_3 ≠ B_417 := Nat.ne_of_lt (Nat.lt_of_lt_of_le hB401.lt hf443)
          have hne457 : B_11 ≠ B_417 := Nat.ne_of_lt (Nat.lt_of_lt_of_le hB402.lt hf443)
          have hne458 : B_3 ≠ B_422 := Nat.ne_of_lt (Nat.lt_of_lt_of_le hB401.lt hf447)
          have hne459 : B_11 ≠ B_422 := Nat.ne_of_lt (Nat.lt_of_lt_of_le hB402.lt hf447)
          refine oneF (c := 12) hA446 rfl (by kernel_rfl) (constF ⟨fun _ _ _ h => by first | exact h | (change _ = _ at h; change _ = _; exact h), fun _ _ _ h => by first | exact h | (change _ = _ at h; change _ = _; exact h), fun _ _ _ h => by first | exact h | (change _ = _ at h; change _ = _; exact h), fun _ _ _ h => by first | exact h | (change _ = _ at h; change _ = _; exact h), fun _ _ _ h => by first | exact h | (change _ = _ at h; change _ = _; exact h), fun _ _ _ h => by first | exact h | (change _ = _ at h; change _ = _; exact h), fun _ _ _ h => by first | exact h | (change _ = _ at h; change _ = _; exact h), fun _ _ _ h => by first | exact h | (change _ = _ at h; change _ = _; exact h), fun _ _ _ h => by first | exact h | (change _ = _ at h; change _ = _; exact h), fun _ _ _ h => by first | exact h | (change _ = _ at h; change _ = _; exact h), trivial⟩) ⟨?_, ?_, ?_, ?_, ?_, ?_, ?_, ?_, ?_, ?_, trivial⟩ ?_
          · intro a hT
            have hAp := hT.ag hA446 [(2, .pointer (some (⟨B_3, 0, none⟩ : Addr)))] ⟨rfl, trivial⟩ (by kernel_rfl)
            exact opk_val hAp rfl (r_fieldAddr (hAp.get rfl) Try.underlying26 rfl ti_23 (by decide)) fun _ _ e => ⟨_, e, rfl, fun _ => Eq.refl _⟩
          · intro a hT
            have hAp := hT.ag hA446 [] trivial (by kernel_rfl)
            have e460 : a.tmps.getD 64 undef = .pointer (some (⟨B_3, 3, none⟩ : Addr)) := hT.vals 0 rfl 64 rfl
            have hAp := hAp.add e460
            exact opk_val hAp rfl (r_load1 Try.underlying23 rfl (hAp.get rfl) ((hB450.ext hT.chg).cell 3 _ rfl)) fun _ _ e => ⟨_, e, rfl, fun _ => Eq.refl _⟩
          · intro a hT
            have hAp := hT.ag hA446 [(6, .int .i64 i_174)] ⟨rfl, trivial⟩ (by kernel_rfl)
            exact opk_val hAp rfl (r_move (hAp.get rfl)) fun _ _ e => ⟨_, e, rfl, fun _ => Eq.refl _⟩
          · intro a hT
            have hAp := hT.ag hA446 [] trivial (by kernel_rfl)
            have e461 : a.tmps.getD 65 undef = Sl.v a_1_Attrs := hT.vals 1 rfl 65 rfl
            have hAp := hAp.add e461
            have e462 : a.tmps.getD 66 undef = .int .i64 i_174 := hT.vals 2 rfl 66 rfl
            have hAp := hAp.add e462
            exact opk_val hAp rfl (r_indexAddr (hAp.get rfl) (hAp.get rfl) Try.underlying23 ti_33 hp406.1 hp406.2) fun _ _ e => ⟨_, e, rfl, fun _ => Eq.refl _⟩
          · intro a hT
            have hAp := hT.ag hA446 [] trivial (by kernel_rfl)
            have e463 : a.tmps.getD 67 undef = .pointer (some (p_405.add (i_174.toNat * 2))) := hT.vals 3 rfl 67 rfl
            have hAp := hAp.add e463
            exact opk_val hAp rfl (r_loadN Try.underlying33 rfl ti_33 (hAp.get rfl) (hf453.ext hT.chg)) fun _ _ e => ⟨_, e, rfl, fun _ => Eq.refl _⟩
          · intro a hT
            have hAp := hT.ag hA446 [(3, .pointer (some (⟨B_11, 0, none⟩ : Addr)))] ⟨rfl, trivial⟩ (by kernel_rfl)
            exact opk_val hAp rfl (r_fieldAddr (hAp.get rfl) Try.underlying26 rfl ti_23 (by decide)) fun _ _ e => ⟨_, e, rfl, fun _ => Eq.refl _⟩
          · intro a hT
            have hAp := hT.ag hA446 [] trivial (by kernel_rfl)
            have e464 : a.tmps.getD 69 undef = .pointer (some (⟨B_11, 3, none⟩ : Addr)) := hT.vals 5 rfl 69 rfl
            have hAp := hAp.add e464
            exact opk_val hAp rfl (r_load1 Try.underlying23 rfl (hAp.get rfl) ((hB451.ext hT.chg).cell 3 _ rfl)) fun _ _ e => ⟨_, e, rfl, fun _ => Eq.refl _⟩
          · intro a hT
            have hAp := hT.ag hA446 [(6, .int .i64 i_174)] ⟨rfl, trivial⟩ (by kernel_rfl)
            exact opk_val hAp rfl (r_move (hAp.get rfl)) fun _ _ e => ⟨_, e, rfl, fun _ => Eq.refl _⟩
          · intro a hT
            have hAp := hT.ag hA446 [] trivial (by kernel_rfl)
            have e465 : a.tmps.getD 70 undef = Sl.v b_2_Attrs := hT.vals 6 rfl 70 rfl
            have hAp := hAp.add e465
            have e466 : a.tmps.getD 71 undef = .int .i64 i_174 := hT.vals 7 rfl 71 rfl
            have hAp := hAp.add e466
            exact opk_val hAp rfl (r_indexAddr (hAp.get rfl) (hAp.get rfl) Try.underlying23 ti_33 hp412.1 hp412.2) fun _ _ e => ⟨_, e, rfl, fun _ => Eq.refl _⟩
          · intro a hT
            have hAp := hT.ag hA446 [] trivial (by kernel_rfl)
            have e467 : a.tmps.getD 72 undef = .pointer (some (p_411.add (i_174.toNat * 2))) := hT.vals 8 rfl 72 rfl
            have hAp := hAp.add e467
            exact opk_val hAp rfl (r_loadN Try.underlying33 rfl ti_33 (hAp.get rfl) (hf454.ext hT.chg)) fun _ _ e => ⟨_, e, rfl, fun _ => Eq.refl _⟩
          · intro a468 hT
            have hA468 := hT.ag hA446 [(2, .pointer (some (⟨B_3, 0, none⟩ : Addr))), (3, .pointer (some (⟨B_11, 0, none⟩ : Addr))), (6, .int .i64 i_174), (7, .pointer (some (⟨B_417, 0, none⟩ : Addr))), (8, .pointer (some (⟨B_422, 0, none⟩ : Addr)))] ⟨rfl, rfl, rfl, rfl, rfl, trivial⟩ (by kernel_rfl)
            have e469 : a468.tmps.getD 68 undef = .agg #[.string (Bs x_408_Name), .string (Bs x_408_Value)] := hT.vals 4 rfl 68 rfl
            have hA470 := hA468.add e469
            refine opk_storeF hA470 hf444 (r_store (vs := [.string (Bs x_408_Name), .string (Bs x_408_Value)]) (hA470.get rfl) (hA470.get rfl) rfl ti_33 hf444 rfl (ones_all [.string (Bs x_408_Name), .string (Bs x_408_Value)] rfl)) fun w471 hS473 hB474 hA472 => ⟨undef, Eq.refl _, ?_⟩
            have hB475 : Box w471 B_417 33 [.string (Bs x_408_Name), .string (Bs x_408_Value)] := hB474
            have hB476 := hB450.keep hS473 (by simpa using hne456)
            have hB477 := hB451.keep hS473 (by simpa using hne457)
            have hB478 := hf448.keep hS473 (by simpa using hne449.symm)
            have hC479 : Chg [B_417] w436 w471 := hS473
            have hf480 := hf453.chg hS473 (Cells.apart hx409 hf443)
            have hf481 := hf454.chg hS473 (Cells.apart hx415 hf443)
            refine PRF_drop (X := [0, 1, 2, 3, 4]) (Fs' := [5, 6, 7, 8, 9]) hA472 (by kernel_rfl) fun a482 hag483 hv484 => ?_
            have hA482 := hag483 [(2, .pointer (some (⟨B_3, 0, none⟩ : Addr))), (3, .pointer (some (⟨B_11, 0, none⟩ : Addr))), (6, .int .i64 i_174), (7, .pointer (some (⟨B_417, 0, none⟩ : Addr))), (8, .pointer (some (⟨B_422, 0, none⟩ : Addr)))] ⟨rfl, rfl, rfl, rfl, rfl, trivial⟩ (by kernel_rfl)
            refine joinF hA482 (by kernel_rfl) ⟨fun _ _ _ _ h => by first | exact h | (change _ = _ at h; change _ = _; exact h), fun _ _ _ _ h => by first | exact h | (change _ = _ at h; change _ = _; exact h), fun _ _ _ _ h => by first | exact h | (change _ = _ at h; change _ = _; exact h), fun _ _ _ _ h => by first | exact h | (change _ = _ at h; change _ = _; exact h), fun _ _ _ _ h => by first | exact h | (change _ = _ at h; change _ = _; exact h), trivial⟩ ⟨?_, ?_, ?_, ?_, ?_, trivial⟩ ?_
            · intro a w hT
              have hAp := hT.ag hA482 [(3, .pointer (some (⟨B_11, 0, none⟩ : Addr)))] ⟨rfl, trivial⟩ (by kernel_rfl)
              exact opk_val hAp rfl (r_fieldAddr (hAp.get rfl) Try.underlying26 rfl ti_23 (by decide)) fun _ _ e => ⟨_, e, Chg.refl _ _, fun _ => Eq.refl _⟩
            · intro a w hT
              have hAp := hT.ag hA482 [] trivial (by kernel_rfl)
              have e485 : a.tmps.getD 69 undef = .pointer (some (⟨B_11, 3, none⟩ : Addr)) := hT.vals 5 rfl 69 rfl
              have hAp := hAp.add e485
              exact opk_val hAp rfl (r_load1 Try.underlying23 rfl (hAp.get rfl) ((hB477.ext hT.chg).cell 3 _ rfl)) fun _ _ e => ⟨_, e, Chg.refl _ _, fun _ => Eq.refl _⟩
            · intro a w hT
              have hAp := hT.ag hA482 [(6, .int .i64 i_174)] ⟨rfl, trivial⟩ (by kernel_rfl)
              exact opk_val hAp rfl (r_move (hAp.get rfl)) fun _ _ e => ⟨_, e, Chg.refl _ _, fun _ => Eq.refl _⟩
            · intro a w hT
              have hAp := hT.ag hA482 [] trivial (by kernel_rfl)
              have e486 : a.tmps.getD 70 undef = Sl.v b_2_Attrs := hT.vals 6 rfl 70 rfl
              have hAp := hAp.add e486
              have e487 : a.tmps.getD 71 undef = .int .i64 i_174 := hT.vals 7 rfl 71 rfl
              have hAp := hAp.add e487
              exact opk_val hAp rfl (r_indexAddr (hAp.get rfl) (hAp.get rfl) Try.underlying23 ti_33 hp412.1 hp412.2) fun _ _ e => ⟨_, e, Chg.refl _ _, fun _ => Eq.refl _⟩
            · intro a w hT
              have hAp := hT.ag hA482 [] trivial (by kernel_rfl)
              have e488 : a.tmps.getD 72 undef = .pointer (some (p_411.add (i_174.toNat * 2))) := hT.vals 8 rfl 72 rfl
              have hAp := hAp.add e488
              exact opk_val hAp rfl (r_loadN Try.underlying33 rfl ti_33 (hAp.get rfl) (hf481.ext hT.chg)) fun _ _ e => ⟨_, e, Chg.refl _ _, fun _ => Eq.refl _⟩
            · intro a489 w490 hE491 hag492 hv493
              have hA489 := hag492 [(2, .pointer (some (⟨B_3, 0, none⟩ : Addr))), (3, .pointer (some (⟨B_11, 0, none⟩ : Addr))), (6, .int .i64 i_174), (7, .pointer (some (⟨B_417, 0, none⟩ : Addr))), (8, .pointer (some (⟨B_422, 0, none⟩ : Addr)))] ⟨rfl, rfl, rfl, rfl, rfl, trivial⟩ (by kernel_rfl)
              have e494 : a489.tmps.getD 73 undef = .agg #[.string (Bs x_414_Name), .string (Bs x_414_Value)] := hv493 9 rfl 73 rfl
              have hA495 := hA489.add e494
              have hB496 := hB476.ext hE491
              have hB497 := hB477.ext hE491
              have hB498 := hB475.ext hE491
              have hB499 := hB478.ext hE491
              have hC500 := hC479.more hE491
              have hf501 := hf480.ext hE491
              have hf502 := hf481.ext hE491
              refine one (D := [[], [0], [], [0, 1, 2], [0, 1, 2, 3], [], [5], [], [5, 6, 7], [5, 6, 7, 8], [], [], [0, 1, 2, 3, 4, 10, 11], [0, 1, 2, 3, 4, 5, 6, 7, 8, 9, 10, 11, 12]]) (i := 13) rfl (by kernel_rfl) (opk_store hA495 hB499 (r_store (vs := [.string (Bs x_414_Name), .string (Bs x_414_Value)]) (hA495.get rfl) (hA495.get rfl) rfl ti_33 hB499 rfl (ones_all [.string (Bs x_414_Name), .string (Bs x_414_Value)] rfl)) fun a504 w503 hS505 hB506 hA504 => ?_)
              have hB507 : Box w503 B_422 33 [.string (Bs x_414_Name), .string (Bs x_414_Value)] := hB506
              have hB508 := hB496.keep hS505 (by simpa using hne458)
              have hB509 := hB497.keep hS505 (by simpa using hne459)
              have hB510 := hB498.keep hS505 (by simpa using hne449)
              have hC511 := hC500.storeOld hS505
              refine PR_end (by kernel_rfl) ?_
              have hA512 := hA504.keep [(2, .pointer (some (⟨B_3, 0, none⟩ : Addr))), (3, .pointer (some (⟨B_11, 0, none⟩ : Addr))), (6, .int .i64 i_174), (7, .pointer (some (⟨B_417, 0, none⟩ : Addr))), (8, .pointer (some (⟨B_422, 0, none⟩ : Addr)))] ⟨rfl, rfl, rfl, rfl, rfl, trivial⟩
              refine then_normal ?_
              refine wp_region_lit ?_
              refine sq (opk_val hA512 rfl (r_fieldAddr (hA512.get rfl) Try.underlying33 rfl ti_9 (by decide)) fun a513 hA513 _ => ?_)
              refine sq (opk_val hA513 rfl (r_load1 Try.underlying9 rfl (hA513.get rfl) (hB510.cell 0 _ rfl)) fun a514 hA514 _ => ?_)
              refine sq (opk_val hA514 rfl (r_fieldAddr (hA514.get rfl) Try.underlying33 rfl ti_9 (by decide)) fun a515 hA515 _ => ?_)
              refine sq (opk_val hA515 rfl (r_load1 Try.underlying9 rfl (hA515.get rfl) (hB507.cell 0 _ rfl)) fun a516 hA516 _ => ?_)
              refine sq (opk_val hA516 rfl (r_slss (hA516.get rfl) (hA516.get rfl)) fun a517 hA517 _ => ?_)
              refine sq (opk_val hA517 rfl (r_move (hA517.get rfl)) fun a518 hA518 _ => ?_)
              refine sq (opk_gval hA518 rfl rfl (g := true) (e := (Op.bytesLess x_408_Name x_414_Name)) rfl (fun hg => r_fieldAddr (hA518.get rfl) Try.underlying33 rfl ti_9 (by decide)) fun a519 hA519 _ => ?_)
              refine sq (opk_gval hA519 rfl rfl (g := true) (e := (Op.bytesLess x_408_Name x_414_Name)) rfl (fun hg => r_load1 Try.underlying9 rfl (cv_get (hA519.get rfl) hg) (hB510.cell 0 _ rfl)) fun a520 hA520 _ => ?_)
              refine sq (opk_gval hA520 rfl rfl (g := true) (e := (Op.bytesLess x_408_Name x_414_Name)) rfl (fun hg => r_fieldAddr (hA520.get rfl) Try.underlying33 rfl ti_9 (by decide)) fun a521 hA521 _ => ?_)
              refine sq (opk_gval hA521 rfl rfl (g := true) (e := (Op.bytesLess x_408_Name x_414_Name)) rfl (fun hg => r_load1 Try.underlying9 rfl (cv_get (hA521.get rfl) hg) (hB507.cell 0 _ rfl)) fun a522 hA522 _ => ?_)
              refine sq (opk_gval hA522 rfl rfl (g := true) (e := (Op.bytesLess x_408_Name x_414_Name)) rfl (fun hg => r_seql (cv_get (hA522.get rfl) hg) (cv_get (hA522.get rfl) hg)) fun a523 hA523 _ => ?_)
              refine sq (opk_gval hA523 rfl rfl (g := true) (e := (Op.bytesLess x_408_Name x_414_Name)) rfl (fun hg => r_move (cv_get (hA523.get rfl) hg)) fun a524 hA524 _ => ?_)
              refine sq (opk_gval hA524 rfl rfl (g := (true && ((Op.bytesLess x_408_Name x_414_Name) == false))) (e := (decide (x_408_Name = x_414_Name))) rfl (fun hg => r_fieldAddr (hA524.get rfl) Try.underlying33 rfl ti_9 (by decide)) fun a525 hA525 _ => ?_)
              refine sq (opk_gval hA525 rfl rfl (g := (true && ((Op.bytesLess x_408_Name x_414_Name) == false))) (e := (decide (x_408_Name = x_414_Name))) rfl (fun hg => r_load1 Try.underlying9 rfl (cv_get (hA525.get rfl) hg) (hB510.cell 1 _ rfl)) fun a526 hA526 _ => ?_)
              refine sq (opk_gval hA526 rfl rfl (g := (true && ((Op.bytesLess x_408_Name x_414_Name) == false))) (e := (decide (x_408_Name = x_414_Name))) rfl (fun hg => r_fieldAddr (hA526.get rfl) Try.underlying33 rfl ti_9 (by decide)) fun a527 hA527 _ => ?_)
              refine sq (opk_gval hA527 rfl rfl (g := (true && ((Op.bytesLess x_408_Name x_414_Name) == false))) (e := (decide (x_408_Name = x_414_Name))) rfl (fun hg => r_load1 Try.underlying9 rfl (cv_get (hA527.get rfl) hg) (hB507.cell 1 _ rfl)) fun a528 hA528 _ => ?_)
              refine sq (opk_gval hA528 rfl rfl (g := (true && ((Op.bytesLess x_408_Name x_414_Name) == false))) (e := (decide (x_408_Name = x_414_Name))) rfl (fun hg => r_slss (cv_get (hA528.get rfl) hg) (cv_get (hA528.get rfl) hg)) fun a529 hA529 _ => ?_)
              refine sq (opk_gval hA529 rfl rfl (g := true) (e := (Op.bytesLess x_408_Name x_414_Name)) rfl (fun hg => r_pick_and (g := ((true && ((Op.bytesLess x_408_Name x_414_Name) == false)) && ((decide (x_408_Name = x_414_Name)) == true))) (cv_get (hA529.get rfl) hg) (hA529.get rfl) (fun he => g_mkt hg he)) fun a530 hA530 _ => ?_)
              refine sq (opk_val hA530 rfl (r_pick_or (g := (true && ((Op.bytesLess x_408_Name x_414_Name) == false))) (hA530.get rfl) (hA530.get rfl) (fun he => g_mkf rfl he)) fun a531 hA531 _ => ?_)
              refine sq (opk_val hA531 rfl (r_fieldAddr (hA531.get rfl) Try.underlying33 rfl ti_9 (by decide)) fun a532 hA532 _ => ?_)
              refine sq (opk_val hA532 rfl (r_load1 Try.underlying9 rfl (hA532.get rfl) (hB510.cell 0 _ rfl)) fun a533 hA533 _ => ?_)
              refine sq (opk_val hA533 rfl (r_fieldAddr (hA533.get rfl) Try.underlying33 rfl ti_9 (by decide)) fun a534 hA534 _ => ?_)
              refine sq (opk_val hA534 rfl (r_load1 Try.underlying9 rfl (hA534.get rfl) (hB507.cell 0 _ rfl)) fun a535 hA535 _ => ?_)
              refine sq (opk_val hA535 rfl (r_sgtr (hA535.get rfl) (hA535.get rfl)) fun a536 hA536 _ => ?_)
              refine sq (opk_val hA536 rfl (r_move (hA536.get rfl)) fun a537 hA537 _ => ?_)
              refine sq (opk_gval hA537 rfl rfl (g := true) (e := (!((Op.bytesLess x_408_Name x_414_Name) || (decide (x_408_Name = x_414_Name))))) rfl (fun hg => r_fieldAddr (hA537.get rfl) Try.underlying33 rfl ti_9 (by decide)) fun a538 hA538 _ => ?_)
              refine sq (opk_gval hA538 rfl rfl (g := true) (e := (!((Op.bytesLess x_408_Name x_414_Name) || (decide (x_408_Name = x_414_Name))))) rfl (fun hg => r_load1 Try.underlying9 rfl (cv_get (hA538.get rfl) hg) (hB510.cell 0 _ rfl)) fun a539 hA539 _ => ?_)
              refine sq (opk_gval hA539 rfl rfl (g := true) (e := (!((Op.bytesLess x_408_Name x_414_Name) || (decide (x_408_Name = x_414_Name))))) rfl (fun hg => r_fieldAddr (hA539.get rfl) Try.underlying33 rfl ti_9 (by decide)) fun a540 hA540 _ => ?_)
              refine sq (opk_gval hA540 rfl rfl (g := true) (e := (!((Op.bytesLess x_408_Name x_414_Name) || (decide (x_408_Name = x_414_Name))))) rfl (fun hg => r_load1 Try.underlying9 rfl (cv_get (hA540.get rfl) hg) (hB507.cell 0 _ rfl)) fun a541 hA541 _ => ?_)
              refine sq (opk_gval hA541 rfl rfl (g := true) (e := (!((Op.bytesLess x_408_Name x_414_Name) || (decide (x_408_Name = x_414_Name))))) rfl (fun hg => r_seql (cv_get (hA541.get rfl) hg) (cv_get (hA541.get rfl) hg)) fun a542 hA542 _ => ?_)
              refine sq (opk_gval hA542 rfl rfl (g := true) (e := (!((Op.bytesLess x_408_Name x_414_Name) || (decide (x_408_Name = x_414_Name))))) rfl (fun hg => r_move (cv_get (hA542.get rfl) hg)) fun a543 hA543 _ => ?_)
              refine sq (opk_gval hA543 rfl rfl (g := (true && ((!((Op.bytesLess x_408_Name x_414_Name) || (decide (x_408_Name = x_414_Name)))) == false))) (e := (decide (x_408_Name = x_414_Name))) rfl (fun hg => r_fieldAddr (hA543.get rfl) Try.underlying33 rfl ti_9 (by decide)) fun a544 hA544 _ => ?_)
              refine sq (opk_gval hA544 rfl rfl (g := (true && ((!((Op.bytesLess x_408_Name x_414_Name) || (decide (x_408_Name = x_414_Name)))) == false))) (e := (decide (x_408_Name = x_414_Name))) rfl (fun hg => r_load1 Try.underlying9 rfl (cv_get (hA544.get rfl) hg) (hB510.cell 1 _ rfl)) fun a545 hA545 _ => ?_)
              refine sq (opk_gval hA545 rfl rfl (g := (true && ((!((Op.bytesLess x_408_Name x_414_Name) || (decide (x_408_Name = x_414_Name)))) == false))) (e := (decide (x_408_Name = x_414_Name))) rfl (fun hg => r_fieldAddr (hA545.get rfl) Try.underlying33 rfl ti_9 (by decide)) fun a546 hA546 _ => ?_)
              refine sq (opk_gval hA546 rfl rfl (g := (true && ((!((Op.bytesLess x_408_Name x_414_Name) || (decide (x_408_Name = x_414_Name)))) == false))) (e := (decide (x_408_Name = x_414_Name))) rfl (fun hg => r_load1 Try.underlying9 rfl (cv_get (hA546.get rfl) hg) (hB507.cell 1 _ rfl)) fun a547 hA547 _ => ?_)
              refine sq (opk_gval hA547 rfl rfl (g := (true && ((!((Op.bytesLess x_408_Name x_414_Name) || (decide (x_408_Name = x_414_Name)))) == false))) (e := (decide (x_408_Name = x_414_Name))) rfl (fun hg => r_sgtr (cv_get (hA547.get rfl) hg) (cv_get (hA547.get rfl) hg)) fun a548 hA548 _ => ?_)
              refine sq (opk_gval hA548 rfl rfl (g := true) (e := (!((Op.bytesLess x_408_Name x_414_Name) || (decide (x_408_Name = x_414_Name))))) rfl (fun hg => r_pick_and (g := ((true && ((!((Op.bytesLess x_408_Name x_414_Name) || (decide (x_408_Name = x_414_Name)))) == false)) && ((decide (x_408_Name = x_414_Name)) == true))) (cv_get (hA548.get rfl) hg) (hA548.get rfl) (fun he => g_mkt hg he)) fun a549 hA549 _ => ?_)
              refine sq (opk_val hA549 rfl (r_pick_or (g := (true && ((!((Op.bytesLess x_408_Name x_414_Name) || (decide (x_408_Name = x_414_Name)))) == false))) (hA549.get rfl) (hA549.get rfl) (fun he => g_mkf rfl he)) fun a550 hA550 _ => ?_)
              have ht551 := ht455 w503    hC511
              refine sq (opk_call hA550 rfl (r_call (args := #[.bool ((Op.bytesLess x_408_Name x_414_Name) || ((decide (x_408_Name = x_414_Name)) && (Op.bytesLess x_408_Value x_414_Value))), .bool ((!((Op.bytesLess x_408_Name x_414_Name) || (decide (x_408_Name = x_414_Name)))) || ((decide (x_408_Name = x_414_Name)) && (!((Op.bytesLess x_408_Value x_414_Value) || (decide (x_408_Value = x_414_Value))))))]) Try.func46 (by decide) rfl (map_arr (ml_cons (hA550.get rfl) (ml_cons (hA550.get rfl) ml_nil))) rfl) ht551 fun a553 v559 w554 hA553 _ hn556 hz557 hK558 => ?_)
              obtain ⟨r_552, rfl, ht555⟩ := hK558
              have hB560 := hB508.kept hn556 (.head _)
              have hB561 := hB509.kept hn556 (.tail _ (.head _))
              have hB562 := hB510.kept hn556 (.tail _ (.tail _ (.head _)))
              have hB563 := hB507.kept hn556 (.tail _ (.tail _ (.tail _ (.head _))))
              refine sq (opk_val hA553 rfl (r_assign (hA553.get rfl)) fun a564 hA564 _ => ?_)
              refine sq_end ?_
              have hA565 := hA564.keep [(2, .pointer (some (⟨B_3, 0, none⟩ : Addr))), (3, .pointer (some (⟨B_11, 0, none⟩ : Addr))), (5, .int .i64 r_552), (6, .int .i64 i_174)] ⟨rfl, rfl, rfl, rfl, trivial⟩
              refine block_normal ?_
              refine then_normal ?_
              refine wp_region_lit ?_
              refine sq (opk_val hA565 rfl (r_move (hA565.get rfl)) fun a566 hA566 _ => ?_)
              obtain ⟨hS568, ht569⟩ := ht555
              refine sq (opk_val hA566 rfl (r_addI (hA566.get rfl) rfl hS568) fun a567 hA567 _ => ?_)
              refine sq (opk_val hA567 rfl (r_assign (hA567.get rfl)) fun a570 hA570 _ => ?_)
              refine sq_end ?_
              have hA571 := hA570.keep [(2, .pointer (some (⟨B_3, 0, none⟩ : Addr))), (3, .pointer (some (⟨B_11, 0, none⟩ : Addr))), (5, .int .i64 r_552), (6, .int .i64 (i_174 + 1))] ⟨rfl, rfl, rfl, rfl, trivial⟩
              have hA572 := hA571.keep [(2, .pointer (some (⟨B_3, 0, none⟩ : Addr))), (3, .pointer (some (⟨B_11, 0, none⟩ : Addr))), (5, .int .i64 r_552), (6, .int .i64 (i_174 + 1))] ⟨rfl, rfl, rfl, rfl, trivial⟩
              exact then_normal ⟨(r_552, i_174 + 1, w554), ⟨hA572, hB560, hB561, rfl, ht569.1⟩, ht569.2⟩
      · have ht398 := ht378.2 ((b_and_f hc).imp (fun h => ((b_and_f h).imp (fun h => (of_decide_eq_false h)) (fun h => (of_decide_eq_false h)))) (fun h => (of_decide_eq_false h)))
        clear hc
        refine wp_exit ?_
        refine then_exit ?_
        refine then_exit ?_
        refine block_hit ?_
        have hA573 := hA396.keep [(2, .pointer (some (⟨B_3, 0, none⟩ : Addr))), (3, .pointer (some (⟨B_11, 0, none⟩ : Addr))), (5, .int .i64 c_173)] ⟨rfl, rfl, rfl, trivial⟩
        refine then_normal ?_
        refine wp_seq ?_
        refine wp_seq ?_
        refine wp_region_lit ?_
        refine sq (opk_val hA573 rfl (r_move (hA573.get rfl)) fun a574 hA574 _ => ?_)
        refine sq (opk_val hA574 rfl (r_eql (hA574.get rfl) rfl) fun a575 hA575 _ => ?_)
        refine sq_end ?_
        have hA576 := hA575.keep [(2, .pointer (some (⟨B_3, 0, none⟩ : Addr))), (3, .pointer (some (⟨B_11, 0, none⟩ : Addr))), (5, .int .i64 c_173), (114, .bool (decide (c_173 = 0)))] ⟨rfl, rfl, rfl, rfl, trivial⟩
        refine then_normal ?_
        refine wp_cond_split (hA576.get rfl) (fun hc => ?_) (fun hc => ?_)
        · have ht577 := ht398.1 (of_decide_eq_true hc)
          clear hc
          refine wp_region_lit ?_
          refine sq (opk_val hA576 rfl (r_fieldAddr (hA576.get rfl) Try.underlying26 rfl ti_23 (by decide)) fun a579 hA579 _ => ?_)
          refine sq (opk_val hA579 rfl (r_load1 Try.underlying23 rfl (hA579.get rfl) (hB374.cell 3 _ rfl)) fun a580 hA580 _ => ?_)
          refine sq (opk_val hA580 rfl (r_len (hA580.get rfl) Try.underlying23) fun a581 hA581 _ => ?_)
          refine sq (opk_val hA581 rfl (r_fieldAddr (hA581.get rfl) Try.underlying26 rfl ti_23 (by decide)) fun a582 hA582 _ => ?_)
          refine sq (opk_val hA582 rfl (r_load1 Try.underlying23 rfl (hA582.get rfl) (hB375.cell 3 _ rfl)) fun a583 hA583 _ => ?_)
          refine sq (opk_val hA583 rfl (r_len (hA583.get rfl) Try.underlying23) fun a584 hA584 _ => ?_)
          refine sq (opk_val hA584 rfl (r_lss (hA584.get rfl) (hA584.get rfl)) fun a585 hA585 _ => ?_)
          refine sq (opk_val hA585 rfl (r_fieldAddr (hA585.get rfl) Try.underlying26 rfl ti_23 (by decide)) fun a586 hA586 _ => ?_)
          refine sq (opk_val hA586 rfl (r_load1 Try.underlying23 rfl (hA586.get rfl) (hB374.cell 3 _ rfl)) fun a587 hA587 _ => ?_)
          refine sq (opk_val hA587 rfl (r_len (hA587.get rfl) Try.underlying23) fun a588 hA588 _ => ?_)
          refine sq (opk_val hA588 rfl (r_fieldAddr (hA588.get rfl) Try.underlying26 rfl ti_23 (by decide)) fun a589 hA589 _ => ?_)
          refine sq (opk_val hA589 rfl (r_load1 Try.underlying23 rfl (hA589.get rfl) (hB375.cell 3 _ rfl)) fun a590 hA590 _ => ?_)
          refine sq (opk_val hA590 rfl (r_len (hA590.get rfl) Try.underlying23) fun a591 hA591 _ => ?_)
          refine sq (opk_val hA591 rfl (r_gtr (hA591.get rfl) (hA591.get rfl)) fun a592 hA592 _ => ?_)
          refine sq (opk_call hA592 rfl (r_call (args := #[.bool (decide ((a_1_Attrs.n : Int) < (b_2_Attrs.n : Int))), .bool (decide ((b_2_Attrs.n : Int) < (a_1_Attrs.n : Int)))]) Try.func46 (by decide) rfl (map_arr (ml_cons (hA592.get rfl) (ml_cons (hA592.get rfl) ml_nil))) rfl) ht577 fun a594 v600 w595 hA594 _ hn597 hz598 hK599 => ?_)
          obtain ⟨r_593, rfl, ht596⟩ := hK599
          have hB601 := hB374.kept hn597 (.head _)
          have hB602 := hB375.kept hn597 (.tail _ (.head _))
          refine sq (opk_val hA594 rfl (r_assign (hA594.get rfl)) fun a603 hA603 _ => ?_)
          refine sq_end ?_
          have hA604 := hA603.keep [(5, .int .i64 r_593)] ⟨rfl, trivial⟩
          refine then_normal ?_
          refine wp_seq ?_
          refine wp_region_lit ?_
          refine sq (opk_val hA604 rfl (r_move (hA604.get rfl)) fun a605 hA605 _ => ?_)
          refine sq (opk_val hA605 rfl (r_assign (hA605.get rfl)) fun a606 hA606 _ => ?_)
          refine sq_end ?_
          have hA607 := hA606.keep [(4, .int .i64 r_593)] ⟨rfl, trivial⟩
          refine then_normal ?_
          refine wp_ret ?_
          exact res_all (vs := [.int .i64 r_593]) rfl hA607 ⟨res_of_tmp hA607 rfl, trivial⟩ ht596
        · have ht578 := ht398.2 (of_decide_eq_false hc)
          clear hc
          refine wp_skip ?_
          refine then_normal ?_
          refine wp_seq ?_
          refine wp_region_lit ?_
          refine sq (opk_val hA576 rfl (r_move (hA576.get rfl)) fun a608 hA608 _ => ?_)
          refine sq (opk_val hA608 rfl (r_assign (hA608.get rfl)) fun a609 hA609 _ => ?_)
          refine sq_end ?_
          have hA610 := hA609.keep [(4, .int .i64 c_173)] ⟨rfl, trivial⟩
          refine then_normal ?_
          refine wp_ret ?_
          exact res_all (vs := [.int .i64 c_173]) rfl hA610 ⟨res_of_tmp hA610 rfl, trivial⟩ ht578

/-- The condition of topiary/topiaryref05.sign. -/
def ref05_sign.vc (less_1 : Bool) (more_2 : Bool) (R : Value → World → Prop) (w : World) : Prop :=
((less_1 = true) →
R (.int .i64 (-1)) w) ∧
((less_1 = false) →
((more_2 = true) →
R (.int .i64 1) w) ∧
((more_2 = false) →
R (.int .i64 0) w))
set_option maxHeartbeats 1000000 in
set_option maxRecDepth 10000 in
theorem ref05_sign.ok (less_1 : Bool) (more_2 : Bool) {R : Value → World → Prop} {w : World} (ht0 : ref05_sign.vc less_1 more_2 R w) : Calls Try.prog 46 #[.bool less_1, .bool more_2] w (Ret R) := by
  refine enter [.bool less_1, .bool more_2] Try.func46 rfl Try.ntmps46 rfl ?_
  intro a0 hA0
  unfold ref05_sign.vc at ht0
  refine wp_seq ?_
  refine wp_region_lit ?_
  refine sq (opk_val hA0 rfl (r_assign rfl) fun a3 hA3 _ => ?_)
  refine sq_end ?_
  have hA4 := hA3.keep [(0, .bool less_1), (1, .bool more_2)] ⟨rfl, rfl, trivial⟩
  refine then_normal ?_
  refine wp_seq ?_
  refine wp_block ?_
  refine wp_seq ?_
  refine wp_region_lit ?_
  refine sq (opk_val hA4 rfl (r_move (hA4.get rfl)) fun a5 hA5 _ => ?_)
  refine sq (opk_val hA5 rfl (r_assign (hA5.get rfl)) fun a6 hA6 _ => ?_)
  refine sq_end ?_
  have hA7 := hA6.keep [(1, .bool more_2), (5, .bool less_1)] ⟨rfl, rfl, trivial⟩
  refine then_normal ?_
  refine wp_cond_split (hA7.get rfl) (fun hc => ?_) (fun hc => ?_)
  · have ht8 := ht0.1 hc
    clear hc
    refine wp_seq ?_
    refine wp_region_lit ?_
    refine sq (opk_val hA7 rfl (r_assign rfl) fun a10 hA10 _ => ?_)
    refine sq_end ?_
    have hA11 := hA10.keep [(4, .int .i64 (-1))] ⟨rfl, trivial⟩
    refine then_normal ?_
    refine wp_ret ?_
    refine block_ret ?_
    refine then_ret ?_
    exact res_all (vs := [.int .i64 (-1)]) rfl hA11 ⟨res_of_tmp hA11 rfl, trivial⟩ ht8
  · have ht9 := ht0.2 hc
    clear hc
    refine wp_seq ?_
    refine wp_region_lit ?_
    refine sq (opk_val hA7 rfl (r_move (hA7.get rfl)) fun a12 hA12 _ => ?_)
    refine sq (opk_val hA12 rfl (r_assign (hA12.get rfl)) fun a13 hA13 _ => ?_)
    refine sq_end ?_
    have hA14 := hA13.keep [(7, .bool more_2)] ⟨rfl, trivial⟩
    refine then_normal ?_
    refine wp_cond_split (hA14.get rfl) (fun hc => ?_) (fun hc => ?_)
    · have ht15 := ht9.1 hc
      clear hc
      refine wp_seq ?_
      refine wp_region_lit ?_
      refine sq (opk_val hA14 rfl (r_assign rfl) fun a17 hA17 _ => ?_)
      refine sq_end ?_
      have hA18 := hA17.keep [(4, .int .i64 1)] ⟨rfl, trivial⟩
      refine then_normal ?_
      refine wp_ret ?_
      refine block_ret ?_
      refine then_ret ?_
      exact res_all (vs := [.int .i64 1]) rfl hA18 ⟨res_of_tmp hA18 rfl, trivial⟩ ht15
    · have ht16 := ht9.2 hc
      clear hc
      refine wp_skip ?_
      refine block_normal ?_
      refine then_normal ?_
      refine wp_seq ?_
      refine wp_region_lit ?_
      refine sq (opk_val hA14 rfl (r_assign rfl) fun a19 hA19 _ => ?_)
      refine sq_end ?_
      have hA20 := hA19.keep [(4, .int .i64 0)] ⟨rfl, trivial⟩
      refine then_normal ?_
      refine wp_ret ?_
      exact res_all (vs := [.int .i64 0]) rfl hA20 ⟨res_of_tmp hA20 rfl, trivial⟩ ht16

/-- The condition of topiary/topiaryref05.May. -/
def ref05_May.vc (t_1_Kind : Int) (t_1_Name : Str) (t_1_Text : Str) (t_1_Attrs : Sl) (t_1_Kids : Sl) (top_2 : Bool) (root_3 : Bool) (R : Value → World → Prop) (w : World) : Prop :=
((t_1_Kind = 1) →
∀ (w5 : World) (B_4 : Nat), New w B_4 w5 → Chg [] w w5 →
R (.bool (((top_2 && (decide (t_1_Name = ([] : Str)))) && (decide (t_1_Text = ([] : Str)))) && (decide ((t_1_Attrs.n : Int) = 0)))) w5) ∧
((¬ (t_1_Kind = 1)) →
((t_1_Kind = 2) →
∀ (w5 : World) (B_4 : Nat), New w B_4 w5 → Chg [] w w5 →
CallK Try.prog 28 #[.string (Bs t_1_Name)] w5 [B_4] (fun v w52 => ∃ (r_50 : Bool), v = .bool r_50 ∧
∃ (r_67 : Bool), ((((r_50 = true) ∧ (t_1_Text = ([] : Str)))) → Calls Try.prog 53 #[Sl.v t_1_Attrs] w52 (Ret fun v w' => Ext w52 w' ∧ v = .bool r_67)) ∧
(∀ w69 : World, Ext w52 w69 →
R (.bool ((r_50 && (decide (t_1_Text = ([] : Str)))) && r_67)) w69))) ∧
((¬ (t_1_Kind = 2)) →
((t_1_Kind = 3) →
∀ (w5 : World) (B_4 : Nat), New w B_4 w5 → Chg [] w w5 →
R (.bool (((((decide (t_1_Name = ([] : Str))) && (decide ((t_1_Attrs.n : Int) = 0))) && (decide ((t_1_Kids.n : Int) = 0))) && (decide (1 ≤ (t_1_Text.length : Int)))) && (decide ((t_1_Text.length : Int) ≤ 4096)))) w5) ∧
((¬ (t_1_Kind = 3)) →
((t_1_Kind = 4) →
∀ (w5 : World) (B_4 : Nat), New w B_4 w5 → Chg [] w w5 →
R (.bool ((((decide (t_1_Name = ([] : Str))) && (decide ((t_1_Attrs.n : Int) = 0))) && (decide ((t_1_Kids.n : Int) = 0))) && (decide ((t_1_Text.length : Int) ≤ 4096)))) w5) ∧
((¬ (t_1_Kind = 4)) →
((t_1_Kind = 5) →
∀ (w5 : World) (B_4 : Nat), New w B_4 w5 → Chg [] w w5 →
R (.bool ((((root_3 && (decide ((t_1_Name.length : Int) ≤ 32))) && (decide (t_1_Text = ([] : Str)))) && (decide ((t_1_Attrs.n : Int) = 0))) && (decide ((t_1_Kids.n : Int) = 0)))) w5) ∧
((¬ (t_1_Kind = 5)) →
∀ (w5 : World) (B_4 : Nat), New w B_4 w5 → Chg [] w w5 →
R (.bool false) w5)))))
set_option maxHeartbeats 1000000 in
set_option maxRecDepth 10000 in
theorem ref05_May.ok (t_1_Kind : Int) (t_1_Name : Str) (t_1_Text : Str) (t_1_Attrs : Sl) (t_1_Kids : Sl) (top_2 : Bool) (root_3 : Bool) {R : Value → World → Prop} {w : World} (ht0 : ref05_May.vc t_1_Kind t_1_Name t_1_Text t_1_Attrs t_1_Kids top_2 root_3 R w) : Calls Try.prog 50 #[.agg #[.int .i64 t_1_Kind, .string (Bs t_1_Name), .string (Bs t_1_Text), Sl.v t_1_Attrs, Sl.v t_1_Kids], .bool top_2, .bool root_3] w (Ret R) := by
  refine enter [.agg #[.int .i64 t_1_Kind, .string (Bs t_1_Name), .string (Bs t_1_Text), Sl.v t_1_Attrs, Sl.v t_1_Kids], .bool top_2, .bool root_3] Try.func50 rfl Try.ntmps50 rfl ?_
  intro a0 hA0
  unfold ref05_May.vc at ht0
  refine wp_seq ?_
  refine wp_region_lit ?_
  refine sq (opk_new (fun B => .pointer (some ⟨B, 0, none⟩)) hA0 rfl (r_box (cs := [.int .i64 t_1_Kind, .string (Bs t_1_Name), .string (Bs t_1_Text), Sl.v t_1_Attrs, Sl.v t_1_Kids]) (hA0.get rfl) rfl) fun a6 w5 B_4 hE7 hN8 hB9 hA6 _ => ?_)
  have hN10 : New w B_4 w5 := hN8
  have hC11 : Chg [] w w5 := hE7
  refine sq (opk_val hA6 rfl (r_assign rfl) fun a12 hA12 _ => ?_)
  refine sq_end ?_
  have hA13 := hA12.keep [(1, .bool top_2), (2, .bool root_3), (3, .pointer (some (⟨B_4, 0, none⟩ : Addr)))] ⟨rfl, rfl, rfl, trivial⟩
  refine then_normal ?_
  refine wp_seq ?_
  refine wp_seq ?_
  refine wp_region_lit ?_
  refine sq (opk_val hA13 rfl (r_fieldAddr (hA13.get rfl) Try.underlying26 rfl ti_3 (by decide)) fun a14 hA14 _ => ?_)
  refine sq (opk_val hA14 rfl (r_load1 Try.underlying3 rfl (hA14.get rfl) (hB9.cell 0 _ rfl)) fun a15 hA15 _ => ?_)
  refine sq_end ?_
  have hA16 := hA15.keep [(1, .bool top_2), (2, .bool root_3), (3, .pointer (some (⟨B_4, 0, none⟩ : Addr))), (8, .int .i64 t_1_Kind)] ⟨rfl, rfl, rfl, rfl, trivial⟩
  refine then_normal ?_
  refine wp_block ?_
  refine wp_seq ?_
  refine wp_region_lit ?_
  refine sq (opk_val hA16 rfl (r_eql (hA16.get rfl) rfl) fun a17 hA17 _ => ?_)
  refine sq (opk_val hA17 rfl (r_assign (hA17.get rfl)) fun a18 hA18 _ => ?_)
  refine sq_end ?_
  have hA19 := hA18.keep [(1, .bool top_2), (2, .bool root_3), (3, .pointer (some (⟨B_4, 0, none⟩ : Addr))), (8, .int .i64 t_1_Kind), (9, .bool (decide (t_1_Kind = 1)))] ⟨rfl, rfl, rfl, rfl, rfl, trivial⟩
  refine then_normal ?_
  refine wp_cond_split (hA19.get rfl) (fun hc => ?_) (fun hc => ?_)
  · have ht20 := ht0.1 (of_decide_eq_true hc)
    clear hc
    refine wp_seq ?_
    refine wp_region_lit ?_
    refine sq (opk_val hA19 rfl (r_move (hA19.get rfl)) fun a22 hA22 _ => ?_)
    refine sq (opk_val hA22 rfl (r_move (hA22.get rfl)) fun a23 hA23 _ => ?_)
    refine sq (opk_gval hA23 rfl rfl (g := true) (e := top_2) rfl (fun hg => r_fieldAddr (hA23.get rfl) Try.underlying26 rfl ti_9 (by decide)) fun a24 hA24 _ => ?_)
    refine sq (opk_gval hA24 rfl rfl (g := true) (e := top_2) rfl (fun hg => r_load1 Try.underlying9 rfl (cv_get (hA24.get rfl) hg) (hB9.cell 1 _ rfl)) fun a25 hA25 _ => ?_)
    refine sq (opk_gval hA25 rfl rfl (g := true) (e := top_2) rfl (fun hg => r_seql (cv_get (hA25.get rfl) hg) rfl) fun a26 hA26 _ => ?_)
    refine sq (opk_val hA26 rfl (r_pick_and (g := (true && (top_2 == true))) (hA26.get rfl) (hA26.get rfl) (fun he => g_mkt rfl he)) fun a27 hA27 _ => ?_)
    refine sq (opk_val hA27 rfl (r_move (hA27.get rfl)) fun a28 hA28 _ => ?_)
    refine sq (opk_gval hA28 rfl rfl (g := true) (e := (top_2 && (decide (t_1_Name = ([] : Str))))) rfl (fun hg => r_fieldAddr (hA28.get rfl) Try.underlying26 rfl ti_9 (by decide)) fun a29 hA29 _ => ?_)
    refine sq (opk_gval hA29 rfl rfl (g := true) (e := (top_2 && (decide (t_1_Name = ([] : Str))))) rfl (fun hg => r_load1 Try.underlying9 rfl (cv_get (hA29.get rfl) hg) (hB9.cell 2 _ rfl)) fun a30 hA30 _ => ?_)
    refine sq (opk_gval hA30 rfl rfl (g := true) (e := (top_2 && (decide (t_1_Name = ([] : Str))))) rfl (fun hg => r_seql (cv_get (hA30.get rfl) hg) rfl) fun a31 hA31 _ => ?_)
    refine sq (opk_val hA31 rfl (r_pick_and (g := (true && ((top_2 && (decide (t_1_Name = ([] : Str)))) == true))) (hA31.get rfl) (hA31.get rfl) (fun he => g_mkt rfl he)) fun a32 hA32 _ => ?_)
    refine sq (opk_val hA32 rfl (r_move (hA32.get rfl)) fun a33 hA33 _ => ?_)
    refine sq (opk_gval hA33 rfl rfl (g := true) (e := ((top_2 && (decide (t_1_Name = ([] : Str)))) && (decide (t_1_Text = ([] : Str))))) rfl (fun hg => r_fieldAddr (hA33.get rfl) Try.underlying26 rfl ti_23 (by decide)) fun a34 hA34 _ => ?_)
    refine sq (opk_gval hA34 rfl rfl (g := true) (e := ((top_2 && (decide (t_1_Name = ([] : Str)))) && (decide (t_1_Text = ([] : Str))))) rfl (fun hg => r_load1 Try.underlying23 rfl (cv_get (hA34.get rfl) hg) (hB9.cell 3 _ rfl)) fun a35 hA35 _ => ?_)
    refine sq (opk_gval hA35 rfl rfl (g := true) (e := ((top_2 && (decide (t_1_Name = ([] : Str)))) && (decide (t_1_Text = ([] : Str))))) rfl (fun hg => r_len (cv_get (hA35.get rfl) hg) Try.underlying23) fun a36 hA36 _ => ?_)
    refine sq (opk_gval hA36 rfl rfl (g := true) (e := ((top_2 && (decide (t_1_Name = ([] : Str)))) && (decide (t_1_Text = ([] : Str))))) rfl (fun hg => r_eql (cv_get (hA36.get rfl) hg) rfl) fun a37 hA37 _ => ?_)
    refine sq (opk_val hA37 rfl (r_pick_and (g := (true && (((top_2 && (decide (t_1_Name = ([] : Str)))) && (decide (t_1_Text = ([] : Str)))) == true))) (hA37.get rfl) (hA37.get rfl) (fun he => g_mkt rfl he)) fun a38 hA38 _ => ?_)
    refine sq (opk_val hA38 rfl (r_assign (hA38.get rfl)) fun a39 hA39 _ => ?_)
    refine sq_end ?_
    have hA40 := hA39.keep [(6, .bool (((top_2 && (decide (t_1_Name = ([] : Str)))) && (decide (t_1_Text = ([] : Str)))) && (decide ((t_1_Attrs.n : Int) = 0))))] ⟨rfl, trivial⟩
    refine then_normal ?_
    refine wp_ret ?_
    refine block_ret ?_
    refine then_ret ?_
    have ht41 := ht20 w5 B_4 hN10  hC11
    exact res_all (vs := [.bool (((top_2 && (decide (t_1_Name = ([] : Str)))) && (decide (t_1_Text = ([] : Str)))) && (decide ((t_1_Attrs.n : Int) = 0)))]) rfl hA40 ⟨res_of_tmp hA40 rfl, trivial⟩ ht41
  · have ht21 := ht0.2 (of_decide_eq_false hc)
    clear hc
    refine wp_seq ?_
    refine wp_region_lit ?_
    refine sq (opk_val hA19 rfl (r_eql (hA19.get rfl) rfl) fun a42 hA42 _ => ?_)
    refine sq (opk_val hA42 rfl (r_assign (hA42.get rfl)) fun a43 hA43 _ => ?_)
    refine sq_end ?_
    have hA44 := hA43.keep [(2, .bool root_3), (3, .pointer (some (⟨B_4, 0, none⟩ : Addr))), (8, .int .i64 t_1_Kind), (28, .bool (decide (t_1_Kind = 2)))] ⟨rfl, rfl, rfl, rfl, trivial⟩
    refine then_normal ?_
    refine wp_cond_split (hA44.get rfl) (fun hc => ?_) (fun hc => ?_)
    · have ht45 := ht21.1 (of_decide_eq_true hc)
      clear hc
      refine wp_seq ?_
      refine wp_region_lit ?_
      refine sq (opk_val hA44 rfl (r_fieldAddr (hA44.get rfl) Try.underlying26 rfl ti_9 (by decide)) fun a47 hA47 _ => ?_)
      refine sq (opk_val hA47 rfl (r_load1 Try.underlying9 rfl (hA47.get rfl) (hB9.cell 1 _ rfl)) fun a48 hA48 _ => ?_)
      have ht49 := ht45 w5 B_4 hN10  hC11
      refine sq (opk_call hA48 rfl (r_call (args := #[.string (Bs t_1_Name)]) Try.func28 (by decide) rfl (map_arr (ml_cons (hA48.get rfl) ml_nil)) rfl) ht49 fun a51 v57 w52 hA51 _ hn54 hz55 hK56 => ?_)
      obtain ⟨r_50, rfl, ht53⟩ := hK56
      have hB58 := hB9.kept hn54 (.head _)
      refine sq (opk_val hA51 rfl (r_move (hA51.get rfl)) fun a59 hA59 _ => ?_)
      refine sq (opk_gval hA59 rfl rfl (g := true) (e := r_50) rfl (fun hg => r_fieldAddr (hA59.get rfl) Try.underlying26 rfl ti_9 (by decide)) fun a60 hA60 _ => ?_)
      refine sq (opk_gval hA60 rfl rfl (g := true) (e := r_50) rfl (fun hg => r_load1 Try.underlying9 rfl (cv_get (hA60.get rfl) hg) (hB58.cell 2 _ rfl)) fun a61 hA61 _ => ?_)
      refine sq (opk_gval hA61 rfl rfl (g := true) (e := r_50) rfl (fun hg => r_seql (cv_get (hA61.get rfl) hg) rfl) fun a62 hA62 _ => ?_)
      refine sq (opk_val hA62 rfl (r_pick_and (g := (true && (r_50 == true))) (hA62.get rfl) (hA62.get rfl) (fun he => g_mkt rfl he)) fun a63 hA63 _ => ?_)
      refine sq (opk_val hA63 rfl (r_move (hA63.get rfl)) fun a64 hA64 _ => ?_)
      refine sq (opk_gval hA64 rfl rfl (g := true) (e := (r_50 && (decide (t_1_Text = ([] : Str))))) rfl (fun hg => r_fieldAddr (hA64.get rfl) Try.underlying26 rfl ti_23 (by decide)) fun a65 hA65 _ => ?_)
      refine sq (opk_gval hA65 rfl rfl (g := true) (e := (r_50 && (decide (t_1_Text = ([] : Str))))) rfl (fun hg => r_load1 Try.underlying23 rfl (cv_get (hA65.get rfl) hg) (hB58.cell 3 _ rfl)) fun a66 hA66 _ => ?_)
      obtain ⟨r_67, hc71, ht70⟩ := ht53
      refine sq (opk_gcall hA66 rfl rfl (g := true) (e := (r_50 && (decide (t_1_Text = ([] : Str))))) rfl (fun hg => r_call (args := #[Sl.v t_1_Attrs]) Try.func53 (by decide) rfl (map_arr (ml_cons (cv_get (hA66.get rfl) hg) ml_nil)) rfl) (fun hg => hc71 ⟨(b_and_t (g_t hg)).1, (of_decide_eq_true (b_and_t (g_t hg)).2)⟩) fun a68 w69 hA68 _ hE72 => ?_)
      have hB73 := hB58.ext hE72
      have hC74 : Chg [] w52 w69 := hE72
      have ht75 := ht70 w69 hE72
      refine sq (opk_val hA68 rfl (r_pick_and (g := (true && ((r_50 && (decide (t_1_Text = ([] : Str)))) == true))) (hA68.get rfl) (hA68.get rfl) (fun he => g_mkt rfl he)) fun a76 hA76 _ => ?_)
      refine sq (opk_val hA76 rfl (r_assign (hA76.get rfl)) fun a77 hA77 _ => ?_)
      refine sq_end ?_
      have hA78 := hA77.keep [(6, .bool ((r_50 && (decide (t_1_Text = ([] : Str)))) && r_67))] ⟨rfl, trivial⟩
      refine then_normal ?_
      refine wp_ret ?_
      refine block_ret ?_
      refine then_ret ?_
      exact res_all (vs := [.bool ((r_50 && (decide (t_1_Text = ([] : Str)))) && r_67)]) rfl hA78 ⟨res_of_tmp hA78 rfl, trivial⟩ ht75
    · have ht46 := ht21.2 (of_decide_eq_false hc)
      clear hc
      refine wp_seq ?_
      refine wp_region_lit ?_
      refine sq (opk_val hA44 rfl (r_eql (hA44.get rfl) rfl) fun a79 hA79 _ => ?_)
      refine sq (opk_val hA79 rfl (r_assign (hA79.get rfl)) fun a80 hA80 _ => ?_)
      refine sq_end ?_
      have hA81 := hA80.keep [(2, .bool root_3), (3, .pointer (some (⟨B_4, 0, none⟩ : Addr))), (8, .int .i64 t_1_Kind), (43, .bool (decide (t_1_Kind = 3)))] ⟨rfl, rfl, rfl, rfl, trivial⟩
      refine then_normal ?_
      refine wp_cond_split (hA81.get rfl) (fun hc => ?_) (fun hc => ?_)
      · have ht82 := ht46.1 (of_decide_eq_true hc)
        clear hc
        refine wp_seq ?_
        refine wp_region_lit ?_
        refine sq (opk_val hA81 rfl (r_fieldAddr (hA81.get rfl) Try.underlying26 rfl ti_9 (by decide)) fun a84 hA84 _ => ?_)
        refine sq (opk_val hA84 rfl (r_load1 Try.underlying9 rfl (hA84.get rfl) (hB9.cell 1 _ rfl)) fun a85 hA85 _ => ?_)
        refine sq (opk_val hA85 rfl (r_seql (hA85.get rfl) rfl) fun a86 hA86 _ => ?_)
        refine sq (opk_val hA86 rfl (r_move (hA86.get rfl)) fun a87 hA87 _ => ?_)
        refine sq (opk_gval hA87 rfl rfl (g := true) (e := (decide (t_1_Name = ([] : Str)))) rfl (fun hg => r_fieldAddr (hA87.get rfl) Try.underlying26 rfl ti_23 (by decide)) fun a88 hA88 _ => ?_)
        refine sq (opk_gval hA88 rfl rfl (g := true) (e := (decide (t_1_Name = ([] : Str)))) rfl (fun hg => r_load1 Try.underlying23 rfl (cv_get (hA88.get rfl) hg) (hB9.cell 3 _ rfl)) fun a89 hA89 _ => ?_)
        refine sq (opk_gval hA89 rfl rfl (g := true) (e := (decide (t_1_Name = ([] : Str)))) rfl (fun hg => r_len (cv_get (hA89.get rfl) hg) Try.underlying23) fun a90 hA90 _ => ?_)
        refine sq (opk_gval hA90 rfl rfl (g := true) (e := (decide (t_1_Name = ([] : Str)))) rfl (fun hg => r_eql (cv_get (hA90.get rfl) hg) rfl) fun a91 hA91 _ => ?_)
        refine sq (opk_val hA91 rfl (r_pick_and (g := (true && ((decide (t_1_Name = ([] : Str))) == true))) (hA91.get rfl) (hA91.get rfl) (fun he => g_mkt rfl he)) fun a92 hA92 _ => ?_)
        refine sq (opk_val hA92 rfl (r_move (hA92.get rfl)) fun a93 hA93 _ => ?_)
        refine sq (opk_gval hA93 rfl rfl (g := true) (e := ((decide (t_1_Name = ([] : Str))) && (decide ((t_1_Attrs.n : Int) = 0)))) rfl (fun hg => r_fieldAddr (hA93.get rfl) Try.underlying26 rfl ti_24 (by decide)) fun a94 hA94 _ => ?_)
        refine sq (opk_gval hA94 rfl rfl (g := true) (e := ((decide (t_1_Name = ([] : Str))) && (decide ((t_1_Attrs.n : Int) = 0)))) rfl (fun hg => r_load1 Try.underlying24 rfl (cv_get (hA94.get rfl) hg) (hB9.cell 4 _ rfl)) fun a95 hA95 _ => ?_)
        refine sq (opk_gval hA95 rfl rfl (g := true) (e := ((decide (t_1_Name = ([] : Str))) && (decide ((t_1_Attrs.n : Int) = 0)))) rfl (fun hg => r_len (cv_get (hA95.get rfl) hg) Try.underlying24) fun a96 hA96 _ => ?_)
        refine sq (opk_gval hA96 rfl rfl (g := true) (e := ((decide (t_1_Name = ([] : Str))) && (decide ((t_1_Attrs.n : Int) = 0)))) rfl (fun hg => r_eql (cv_get (hA96.get rfl) hg) rfl) fun a97 hA97 _ => ?_)
        refine sq (opk_val hA97 rfl (r_pick_and (g := (true && (((decide (t_1_Name = ([] : Str))) && (decide ((t_1_Attrs.n : Int) = 0))) == true))) (hA97.get rfl) (hA97.get rfl) (fun he => g_mkt rfl he)) fun a98 hA98 _ => ?_)
        refine sq (opk_val hA98 rfl (r_move (hA98.get rfl)) fun a99 hA99 _ => ?_)
        refine sq (opk_gval hA99 rfl rfl (g := true) (e := (((decide (t_1_Name = ([] : Str))) && (decide ((t_1_Attrs.n : Int) = 0))) && (decide ((t_1_Kids.n : Int) = 0)))) rfl (fun hg => r_fieldAddr (hA99.get rfl) Try.underlying26 rfl ti_9 (by decide)) fun a100 hA100 _ => ?_)
        refine sq (opk_gval hA100 rfl rfl (g := true) (e := (((decide (t_1_Name = ([] : Str))) && (decide ((t_1_Attrs.n : Int) = 0))) && (decide ((t_1_Kids.n : Int) = 0)))) rfl (fun hg => r_load1 Try.underlying9 rfl (cv_get (hA100.get rfl) hg) (hB9.cell 2 _ rfl)) fun a101 hA101 _ => ?_)
        refine sq (opk_gval hA101 rfl rfl (g := true) (e := (((decide (t_1_Name = ([] : Str))) && (decide ((t_1_Attrs.n : Int) = 0))) && (decide ((t_1_Kids.n : Int) = 0)))) rfl (fun hg => r_slen (cv_get (hA101.get rfl) hg) Try.underlying9) fun a102 hA102 _ => ?_)
        refine sq (opk_gval hA102 rfl rfl (g := true) (e := (((decide (t_1_Name = ([] : Str))) && (decide ((t_1_Attrs.n : Int) = 0))) && (decide ((t_1_Kids.n : Int) = 0)))) rfl (fun hg => r_geq (cv_get (hA102.get rfl) hg) rfl) fun a103 hA103 _ => ?_)
        refine sq (opk_val hA103 rfl (r_pick_and (g := (true && ((((decide (t_1_Name = ([] : Str))) && (decide ((t_1_Attrs.n : Int) = 0))) && (decide ((t_1_Kids.n : Int) = 0))) == true))) (hA103.get rfl) (hA103.get rfl) (fun he => g_mkt rfl he)) fun a104 hA104 _ => ?_)
        refine sq (opk_val hA104 rfl (r_move (hA104.get rfl)) fun a105 hA105 _ => ?_)
        refine sq (opk_gval hA105 rfl rfl (g := true) (e := ((((decide (t_1_Name = ([] : Str))) && (decide ((t_1_Attrs.n : Int) = 0))) && (decide ((t_1_Kids.n : Int) = 0))) && (decide (1 ≤ (t_1_Text.length : Int))))) rfl (fun hg => r_fieldAddr (hA105.get rfl) Try.underlying26 rfl ti_9 (by decide)) fun a106 hA106 _ => ?_)
        refine sq (opk_gval hA106 rfl rfl (g := true) (e := ((((decide (t_1_Name = ([] : Str))) && (decide ((t_1_Attrs.n : Int) = 0))) && (decide ((t_1_Kids.n : Int) = 0))) && (decide (1 ≤ (t_1_Text.length : Int))))) rfl (fun hg => r_load1 Try.underlying9 rfl (cv_get (hA106.get rfl) hg) (hB9.cell 2 _ rfl)) fun a107 hA107 _ => ?_)
        refine sq (opk_gval hA107 rfl rfl (g := true) (e := ((((decide (t_1_Name = ([] : Str))) && (decide ((t_1_Attrs.n : Int) = 0))) && (decide ((t_1_Kids.n : Int) = 0))) && (decide (1 ≤ (t_1_Text.length : Int))))) rfl (fun hg => r_slen (cv_get (hA107.get rfl) hg) Try.underlying9) fun a108 hA108 _ => ?_)
        refine sq (opk_gval hA108 rfl rfl (g := true) (e := ((((decide (t_1_Name = ([] : Str))) && (decide ((t_1_Attrs.n : Int) = 0))) && (decide ((t_1_Kids.n : Int) = 0))) && (decide (1 ≤ (t_1_Text.length : Int))))) rfl (fun hg => r_leq (cv_get (hA108.get rfl) hg) rfl) fun a109 hA109 _ => ?_)
        refine sq (opk_val hA109 rfl (r_pick_and (g := (true && (((((decide (t_1_Name = ([] : Str))) && (decide ((t_1_Attrs.n : Int) = 0))) && (decide ((t_1_Kids.n : Int) = 0))) && (decide (1 ≤ (t_1_Text.length : Int)))) == true))) (hA109.get rfl) (hA109.get rfl) (fun he => g_mkt rfl he)) fun a110 hA110 _ => ?_)
        refine sq (opk_val hA110 rfl (r_assign (hA110.get rfl)) fun a111 hA111 _ => ?_)
        refine sq_end ?_
        have hA112 := hA111.keep [(6, .bool (((((decide (t_1_Name = ([] : Str))) && (decide ((t_1_Attrs.n : Int) = 0))) && (decide ((t_1_Kids.n : Int) = 0))) && (decide (1 ≤ (t_1_Text.length : Int)))) && (decide ((t_1_Text.length : Int) ≤ 4096))))] ⟨rfl, trivial⟩
        refine then_normal ?_
        refine wp_ret ?_
        refine block_ret ?_
        refine then_ret ?_
        have ht113 := ht82 w5 B_4 hN10  hC11
        exact res_all (vs := [.bool (((((decide (t_1_Name = ([] : Str))) && (decide ((t_1_Attrs.n : Int) = 0))) && (decide ((t_1_Kids.n : Int) = 0))) && (decide (1 ≤ (t_1_Text.length : Int)))) && (decide ((t_1_Text.length : Int) ≤ 4096)))]) rfl hA112 ⟨res_of_tmp hA112 rfl, trivial⟩ ht113
      · have ht83 := ht46.2 (of_decide_eq_false hc)
        clear hc
        refine wp_seq ?_
        refine wp_region_lit ?_
        refine sq (opk_val hA81 rfl (r_eql (hA81.get rfl) rfl) fun a114 hA114 _ => ?_)
        refine sq (opk_val hA114 rfl (r_assign (hA114.get rfl)) fun a115 hA115 _ => ?_)
        refine sq_end ?_
        have hA116 := hA115.keep [(2, .bool root_3), (3, .pointer (some (⟨B_4, 0, none⟩ : Addr))), (8, .int .i64 t_1_Kind), (72, .bool (decide (t_1_Kind = 4)))] ⟨rfl, rfl, rfl, rfl, trivial⟩
        refine then_normal ?_
        refine wp_cond_split (hA116.get rfl) (fun hc => ?_) (fun hc => ?_)
        · have ht117 := ht83.1 (of_decide_eq_true hc)
          clear hc
          refine wp_seq ?_
          refine wp_region_lit ?_
          refine sq (opk_val hA116 rfl (r_fieldAddr (hA116.get rfl) Try.underlying26 rfl ti_9 (by decide)) fun a119 hA119 _ => ?_)
          refine sq (opk_val hA119 rfl (r_load1 Try.underlying9 rfl (hA119.get rfl) (hB9.cell 1 _ rfl)) fun a120 hA120 _ => ?_)
          refine sq (opk_val hA120 rfl (r_seql (hA120.get rfl) rfl) fun a121 hA121 _ => ?_)
          refine sq (opk_val hA121 rfl (r_move (hA121.get rfl)) fun a122 hA122 _ => ?_)
          refine sq (opk_gval hA122 rfl rfl (g := true) (e := (decide (t_1_Name = ([] : Str)))) rfl (fun hg => r_fieldAddr (hA122.get rfl) Try.underlying26 rfl ti_23 (by decide)) fun a123 hA123 _ => ?_)
          refine sq (opk_gval hA123 rfl rfl (g := true) (e := (decide (t_1_Name = ([] : Str)))) rfl (fun hg => r_load1 Try.underlying23 rfl (cv_get (hA123.get rfl) hg) (hB9.cell 3 _ rfl)) fun a124 hA124 _ => ?_)
          refine sq (opk_gval hA124 rfl rfl (g := true) (e := (decide (t_1_Name = ([] : Str)))) rfl (fun hg => r_len (cv_get (hA124.get rfl) hg) Try.underlying23) fun a125 hA125 _ => ?_)
          refine sq (opk_gval hA125 rfl rfl (g := true) (e := (decide (t_1_Name = ([] : Str)))) rfl (fun hg => r_eql (cv_get (hA125.get rfl) hg) rfl) fun a126 hA126 _ => ?_)
          refine sq (opk_val hA126 rfl (r_pick_and (g := (true && ((decide (t_1_Name = ([] : Str))) == true))) (hA126.get rfl) (hA126.get rfl) (fun he => g_mkt rfl he)) fun a127 hA127 _ => ?_)
          refine sq (opk_val hA127 rfl (r_move (hA127.get rfl)) fun a128 hA128 _ => ?_)
          refine sq (opk_gval hA128 rfl rfl (g := true) (e := ((decide (t_1_Name = ([] : Str))) && (decide ((t_1_Attrs.n : Int) = 0)))) rfl (fun hg => r_fieldAddr (hA128.get rfl) Try.underlying26 rfl ti_24 (by decide)) fun a129 hA129 _ => ?_)
          refine sq (opk_gval hA129 rfl rfl (g := true) (e := ((decide (t_1_Name = ([] : Str))) && (decide ((t_1_Attrs.n : Int) = 0)))) rfl (fun hg => r_load1 Try.underlying24 rfl (cv_get (hA129.get rfl) hg) (hB9.cell 4 _ rfl)) fun a130 hA130 _ => ?_)
          refine sq (opk_gval hA130 rfl rfl (g := true) (e := ((decide (t_1_Name = ([] : Str))) && (decide ((t_1_Attrs.n : Int) = 0)))) rfl (fun hg => r_len (cv_get (hA130.get rfl) hg) Try.underlying24) fun a131 hA131 _ => ?_)
          refine sq (opk_gval hA131 rfl rfl (g := true) (e := ((decide (t_1_Name = ([] : Str))) && (decide ((t_1_Attrs.n : Int) = 0)))) rfl (fun hg => r_eql (cv_get (hA131.get rfl) hg) rfl) fun a132 hA132 _ => ?_)
          refine sq (opk_val hA132 rfl (r_pick_and (g := (true && (((decide (t_1_Name = ([] : Str))) && (decide ((t_1_Attrs.n : Int) = 0))) == true))) (hA132.get rfl) (hA132.get rfl) (fun he => g_mkt rfl he)) fun a133 hA133 _ => ?_)
          refine sq (opk_val hA133 rfl (r_move (hA133.get rfl)) fun a134 hA134 _ => ?_)
          refine sq (opk_gval hA134 rfl rfl (g := true) (e := (((decide (t_1_Name = ([] : Str))) && (decide ((t_1_Attrs.n : Int) = 0))) && (decide ((t_1_Kids.n : Int) = 0)))) rfl (fun hg => r_fieldAddr (hA134.get rfl) Try.underlying26 rfl ti_9 (by decide)) fun a135 hA135 _ => ?_)
          refine sq (opk_gval hA135 rfl rfl (g := true) (e := (((decide (t_1_Name = ([] : Str))) && (decide ((t_1_Attrs.n : Int) = 0))) && (decide ((t_1_Kids.n : Int) = 0)))) rfl (fun hg => r_load1 Try.underlying9 rfl (cv_get (hA135.get rfl) hg) (hB9.cell 2 _ rfl)) fun a136 hA136 _ => ?_)
          refine sq (opk_gval hA136 rfl rfl (g := true) (e := (((decide (t_1_Name = ([] : Str))) && (decide ((t_1_Attrs.n : Int) = 0))) && (decide ((t_1_Kids.n : Int) = 0)))) rfl (fun hg => r_slen (cv_get (hA136.get rfl) hg) Try.underlying9) fun a137 hA137 _ => ?_)
          refine sq (opk_gval hA137 rfl rfl (g := true) (e := (((decide (t_1_Name = ([] : Str))) && (decide ((t_1_Attrs.n : Int) = 0))) && (decide ((t_1_Kids.n : Int) = 0)))) rfl (fun hg => r_leq (cv_get (hA137.get rfl) hg) rfl) fun a138 hA138 _ => ?_)
          refine sq (opk_val hA138 rfl (r_pick_and (g := (true && ((((decide (t_1_Name = ([] : Str))) && (decide ((t_1_Attrs.n : Int) = 0))) && (decide ((t_1_Kids.n : Int) = 0))) == true))) (hA138.get rfl) (hA138.get rfl) (fun he => g_mkt rfl he)) fun a139 hA139 _ => ?_)
          refine sq (opk_val hA139 rfl (r_assign (hA139.get rfl)) fun a140 hA140 _ => ?_)
          refine sq_end ?_
          have hA141 := hA140.keep [(6, .bool ((((decide (t_1_Name = ([] : Str))) && (decide ((t_1_Attrs.n : Int) = 0))) && (decide ((t_1_Kids.n : Int) = 0))) && (decide ((t_1_Text.length : Int) ≤ 4096))))] ⟨rfl, trivial⟩
          refine then_normal ?_
          refine wp_ret ?_
          refine block_ret ?_
          refine then_ret ?_
          have ht142 := ht117 w5 B_4 hN10  hC11
          exact res_all (vs := [.bool ((((decide (t_1_Name = ([] : Str))) && (decide ((t_1_Attrs.n : Int) = 0))) && (decide ((t_1_Kids.n : Int) = 0))) && (decide ((t_1_Text.length : Int) ≤ 4096)))]) rfl hA141 ⟨res_of_tmp hA141 rfl, trivial⟩ ht142
        · have ht118 := ht83.2 (of_decide_eq_false hc)
          clear hc
          refine wp_seq ?_
          refine wp_region_lit ?_
          refine sq (opk_val hA116 rfl (r_eql (hA116.get rfl) rfl) fun a143 hA143 _ => ?_)
          refine sq (opk_val hA143 rfl (r_assign (hA143.get rfl)) fun a144 hA144 _ => ?_)
          refine sq_end ?_
          have hA145 := hA144.keep [(2, .bool root_3), (3, .pointer (some (⟨B_4, 0, none⟩ : Addr))), (95, .bool (decide (t_1_Kind = 5)))] ⟨rfl, rfl, rfl, trivial⟩
          refine then_normal ?_
          refine wp_cond_split (hA145.get rfl) (fun hc => ?_) (fun hc => ?_)
          · have ht146 := ht118.1 (of_decide_eq_true hc)
            clear hc
            refine wp_seq ?_
            refine wp_region_lit ?_
            refine sq (opk_val hA145 rfl (r_move (hA145.get rfl)) fun a148 hA148 _ => ?_)
            refine sq (opk_val hA148 rfl (r_move (hA148.get rfl)) fun a149 hA149 _ => ?_)
            refine sq (opk_gval hA149 rfl rfl (g := true) (e := root_3) rfl (fun hg => r_fieldAddr (hA149.get rfl) Try.underlying26 rfl ti_9 (by decide)) fun a150 hA150 _ => ?_)
            refine sq (opk_gval hA150 rfl rfl (g := true) (e := root_3) rfl (fun hg => r_load1 Try.underlying9 rfl (cv_get (hA150.get rfl) hg) (hB9.cell 1 _ rfl)) fun a151 hA151 _ => ?_)
            refine sq (opk_gval hA151 rfl rfl (g := true) (e := root_3) rfl (fun hg => r_slen (cv_get (hA151.get rfl) hg) Try.underlying9) fun a152 hA152 _ => ?_)
            refine sq (opk_gval hA152 rfl rfl (g := true) (e := root_3) rfl (fun hg => r_leq (cv_get (hA152.get rfl) hg) rfl) fun a153 hA153 _ => ?_)
            refine sq (opk_val hA153 rfl (r_pick_and (g := (true && (root_3 == true))) (hA153.get rfl) (hA153.get rfl) (fun he => g_mkt rfl he)) fun a154 hA154 _ => ?_)
            refine sq (opk_val hA154 rfl (r_move (hA154.get rfl)) fun a155 hA155 _ => ?_)
            refine sq (opk_gval hA155 rfl rfl (g := true) (e := (root_3 && (decide ((t_1_Name.length : Int) ≤ 32)))) rfl (fun hg => r_fieldAddr (hA155.get rfl) Try.underlying26 rfl ti_9 (by decide)) fun a156 hA156 _ => ?_)
            refine sq (opk_gval hA156 rfl rfl (g := true) (e := (root_3 && (decide ((t_1_Name.length : Int) ≤ 32)))) rfl (fun hg => r_load1 Try.underlying9 rfl (cv_get (hA156.get rfl) hg) (hB9.cell 2 _ rfl)) fun a157 hA157 _ => ?_)
            refine sq (opk_gval hA157 rfl rfl (g := true) (e := (root_3 && (decide ((t_1_Name.length : Int) ≤ 32)))) rfl (fun hg => r_seql (cv_get (hA157.get rfl) hg) rfl) fun a158 hA158 _ => ?_)
            refine sq (opk_val hA158 rfl (r_pick_and (g := (true && ((root_3 && (decide ((t_1_Name.length : Int) ≤ 32))) == true))) (hA158.get rfl) (hA158.get rfl) (fun he => g_mkt rfl he)) fun a159 hA159 _ => ?_)
            refine sq (opk_val hA159 rfl (r_move (hA159.get rfl)) fun a160 hA160 _ => ?_)
            refine sq (opk_gval hA160 rfl rfl (g := true) (e := ((root_3 && (decide ((t_1_Name.length : Int) ≤ 32))) && (decide (t_1_Text = ([] : Str))))) rfl (fun hg => r_fieldAddr (hA160.get rfl) Try.underlying26 rfl ti_23 (by decide)) fun a161 hA161 _ => ?_)
            refine sq (opk_gval hA161 rfl rfl (g := true) (e := ((root_3 && (decide ((t_1_Name.length : Int) ≤ 32))) && (decide (t_1_Text = ([] : Str))))) rfl (fun hg => r_load1 Try.underlying23 rfl (cv_get (hA161.get rfl) hg) (hB9.cell 3 _ rfl)) fun a162 hA162 _ => ?_)
            refine sq (opk_gval hA162 rfl rfl (g := true) (e := ((root_3 && (decide ((t_1_Name.length : Int) ≤ 32))) && (decide (t_1_Text = ([] : Str))))) rfl (fun hg => r_len (cv_get (hA162.get rfl) hg) Try.underlying23) fun a163 hA163 _ => ?_)
            refine sq (opk_gval hA163 rfl rfl (g := true) (e := ((root_3 && (decide ((t_1_Name.length : Int) ≤ 32))) && (decide (t_1_Text = ([] : Str))))) rfl (fun hg => r_eql (cv_get (hA163.get rfl) hg) rfl) fun a164 hA164 _ => ?_)
            refine sq (opk_val hA164 rfl (r_pick_and (g := (true && (((root_3 && (decide ((t_1_Name.length : Int) ≤ 32))) && (decide (t_1_Text = ([] : Str)))) == true))) (hA164.get rfl) (hA164.get rfl) (fun he => g_mkt rfl he)) fun a165 hA165 _ => ?_)
            refine sq (opk_val hA165 rfl (r_move (hA165.get rfl)) fun a166 hA166 _ => ?_)
            refine sq (opk_gval hA166 rfl rfl (g := true) (e := (((root_3 && (decide ((t_1_Name.length : Int) ≤ 32))) && (decide (t_1_Text = ([] : Str)))) && (decide ((t_1_Attrs.n : Int) = 0)))) rfl (fun hg => r_fieldAddr (hA166.get rfl) Try.underlying26 rfl ti_24 (by decide)) fun a167 hA167 _ => ?_)
            refine sq (opk_gval hA167 rfl rfl (g := true) (e := (((root_3 && (decide ((t_1_Name.length : Int) ≤ 32))) && (decide (t_1_Text = ([] : Str)))) && (decide ((t_1_Attrs.n : Int) = 0)))) rfl (fun hg => r_load1 Try.underlying24 rfl (cv_get (hA167.get rfl) hg) (hB9.cell 4 _ rfl)) fun a168 hA168 _ => ?_)
            refine sq (opk_gval hA168 rfl rfl (g := true) (e := (((root_3 && (decide ((t_1_Name.length : Int) ≤ 32))) && (decide (t_1_Text = ([] : Str)))) && (decide ((t_1_Attrs.n : Int) = 0)))) rfl (fun hg => r_len (cv_get (hA168.get rfl) hg) Try.underlying24) fun a169 hA169 _ => ?_)
            refine sq (opk_gval hA169 rfl rfl (g := true) (e := (((root_3 && (decide ((t_1_Name.length : Int) ≤ 32))) && (decide (t_1_Text = ([] : Str)))) && (decide ((t_1_Attrs.n : Int) = 0)))) rfl (fun hg => r_eql (cv_get (hA169.get rfl) hg) rfl) fun a170 hA170 _ => ?_)
            refine sq (opk_val hA170 rfl (r_pick_and (g := (true && ((((root_3 && (decide ((t_1_Name.length : Int) ≤ 32))) && (decide (t_1_Text = ([] : Str)))) && (decide ((t_1_Attrs.n : Int) = 0))) == true))) (hA170.get rfl) (hA170.get rfl) (fun he => g_mkt rfl he)) fun a171 hA171 _ => ?_)
            refine sq (opk_val hA171 rfl (r_assign (hA171.get rfl)) fun a172 hA172 _ => ?_)
            refine sq_end ?_
            have hA173 := hA172.keep [(6, .bool ((((root_3 && (decide ((t_1_Name.length : Int) ≤ 32))) && (decide (t_1_Text = ([] : Str)))) && (decide ((t_1_Attrs.n : Int) = 0))) && (decide ((t_1_Kids.n : Int) = 0))))] ⟨rfl, trivial⟩
            refine then_normal ?_
            refine wp_ret ?_
            refine block_ret ?_
            refine then_ret ?_
            have ht174 := ht146 w5 B_4 hN10  hC11
            exact res_all (vs := [.bool ((((root_3 && (decide ((t_1_Name.length : Int) ≤ 32))) && (decide (t_1_Text = ([] : Str)))) && (decide ((t_1_Attrs.n : Int) = 0))) && (decide ((t_1_Kids.n : Int) = 0)))]) rfl hA173 ⟨res_of_tmp hA173 rfl, trivial⟩ ht174
          · have ht147 := ht118.2 (of_decide_eq_false hc)
            clear hc
            refine wp_skip ?_
            refine block_normal ?_
            refine then_normal ?_
            refine wp_seq ?_
            refine wp_region_lit ?_
            refine sq (opk_val hA145 rfl (r_assign rfl) fun a175 hA175 _ => ?_)
            refine sq_end ?_
            have hA176 := hA175.keep [(6, .bool false)] ⟨rfl, trivial⟩
            refine then_normal ?_
            refine wp_ret ?_
            have ht177 := ht147 w5 B_4 hN10  hC11
            exact res_all (vs := [.bool false]) rfl hA176 ⟨res_of_tmp hA176 rfl, trivial⟩ ht177

/-- The condition of topiary/topiaryref05.attrs. -/
def ref05_attrs.vc (l_1 : Sl) (R : Value → World → Prop) (w : World) : Prop :=
((12 < (l_1.n : Int)) →
R (.bool false) w) ∧
((¬ (12 < (l_1.n : Int))) →
∃ (J_16 : Int → World → Prop) (mu_17 : Int → World → Nat),
J_16 0 w ∧
(∀ (i_14 : Int) (w15 : World), J_16 i_14 w15 →
((i_14 < (l_1.n : Int)) →
∀ (w147 : World), Chg [] w15 w147 →
∃ p_153 : Addr, (((0 : Int) ≤ i_14 ∧ i_14 < (l_1.n : Int)) ∧ l_1.a = some p_153) ∧
∃ (x_158 : Str), (w147.cell? ((p_153.add (i_14.toNat * 2)).add 0) = some (.string (Bs x_158))) ∧
∃ (r_162 : Bool), (∀ w' : World, Ext w147 w' → Calls Try.prog 28 #[.string (Bs x_158)] w' (Ret fun v w'' => Ext w' w'' ∧ v = .bool r_162)) ∧
∃ p_172 : Addr, (((r_162 = true)) → ((0 : Int) ≤ i_14 ∧ i_14 < (l_1.n : Int)) ∧ l_1.a = some p_172) ∧
∃ (x_179 : Str), (((r_162 = true)) → w147.cell? ((p_172.add (i_14.toNat * 2)).add 1) = some (.string (Bs x_179))) ∧
∃ p_199 : Addr, ((((r_162 = true) ∧ (¬ (4096 < (x_179.length : Int)))) ∧ (0 < i_14)) → ((0 : Int) ≤ i_14 ∧ i_14 < (l_1.n : Int)) ∧ l_1.a = some p_199) ∧
∃ (x_206 : Str), ((((r_162 = true) ∧ (¬ (4096 < (x_179.length : Int)))) ∧ (0 < i_14)) → w147.cell? ((p_199.add (i_14.toNat * 2)).add 0) = some (.string (Bs x_206))) ∧
((((r_162 = true) ∧ (¬ (4096 < (x_179.length : Int)))) ∧ (0 < i_14)) → I64 (i_14 - 1)) ∧
∃ p_218 : Addr, ((((r_162 = true) ∧ (¬ (4096 < (x_179.length : Int)))) ∧ (0 < i_14)) → ((0 : Int) ≤ i_14 - 1 ∧ i_14 - 1 < (l_1.n : Int)) ∧ l_1.a = some p_218) ∧
∃ (x_225 : Str), ((((r_162 = true) ∧ (¬ (4096 < (x_179.length : Int)))) ∧ (0 < i_14)) → w147.cell? ((p_218.add ((i_14 - 1).toNat * 2)).add 0) = some (.string (Bs x_225))) ∧
((((r_162 = false) ∨ (4096 < (x_179.length : Int))) ∨ ((0 < i_14) ∧ (((Op.bytesLess x_206 x_225) = true) ∨ (x_206 = x_225)))) →
∀ (w237 : World), Chg [] w147 w237 →
R (.bool false) w237) ∧
((((r_162 = true) ∧ (¬ (4096 < (x_179.length : Int)))) ∧ ((¬ (0 < i_14)) ∨ (((Op.bytesLess x_206 x_225) = false) ∧ (¬ (x_206 = x_225))))) →
(I64 (i_14 + 1)) ∧
∀ (w237 : World), Chg [] w147 w237 →
J_16 (i_14 + 1) w237 ∧ mu_17 (i_14 + 1) w237 < mu_17 i_14 w15)) ∧
((¬ (i_14 < (l_1.n : Int))) →
R (.bool true) w15)))
set_option maxHeartbeats 1000000 in
set_option maxRecDepth 10000 in
theorem ref05_attrs.ok (l_1 : Sl) {R : Value → World → Prop} {w : World} (ht0 : ref05_attrs.vc l_1 R w) : Calls Try.prog 53 #[Sl.v l_1] w (Ret R) := by
  refine enter [Sl.v l_1] Try.func53 rfl Try.ntmps53 rfl ?_
  intro a0 hA0
  unfold ref05_attrs.vc at ht0
  refine wp_seq ?_
  refine wp_region_lit ?_
  refine sq (opk_val hA0 rfl (r_assign rfl) fun a2 hA2 _ => ?_)
  refine sq_end ?_
  have hA3 := hA2.keep [(0, Sl.v l_1)] ⟨rfl, trivial⟩
  refine then_normal ?_
  refine wp_seq ?_
  refine wp_seq ?_
  refine wp_region_lit ?_
  refine sq (opk_val hA3 rfl (r_move (hA3.get rfl)) fun a4 hA4 _ => ?_)
  refine sq (opk_val hA4 rfl (r_len (hA4.get rfl) Try.underlying23) fun a5 hA5 _ => ?_)
  refine sq (opk_val hA5 rfl (r_gtr (hA5.get rfl) rfl) fun a6 hA6 _ => ?_)
  refine sq_end ?_
  have hA7 := hA6.keep [(0, Sl.v l_1), (6, .bool (decide (12 < (l_1.n : Int))))] ⟨rfl, rfl, trivial⟩
  refine then_normal ?_
  refine wp_cond_split (hA7.get rfl) (fun hc => ?_) (fun hc => ?_)
  · have ht8 := ht0.1 (of_decide_eq_true hc)
    clear hc
    refine wp_seq ?_
    refine wp_region_lit ?_
    refine sq (opk_val hA7 rfl (r_assign rfl) fun a10 hA10 _ => ?_)
    refine sq_end ?_
    have hA11 := hA10.keep [(2, .bool false)] ⟨rfl, trivial⟩
    refine then_normal ?_
    refine wp_ret ?_
    refine then_ret ?_
    exact res_all (vs := [.bool false]) rfl hA11 ⟨res_of_tmp hA11 rfl, trivial⟩ ht8
  · have ht9 := ht0.2 (of_decide_eq_false hc)
    clear hc
    refine wp_skip ?_
    refine then_normal ?_
    refine wp_seq ?_
    refine wp_seq ?_
    refine wp_region_lit ?_
    refine sq (opk_val hA7 rfl (r_assign rfl) fun a12 hA12 _ => ?_)
    refine sq_end ?_
    have hA13 := hA12.keep [(0, Sl.v l_1), (3, .int .i64 0)] ⟨rfl, rfl, trivial⟩
    refine then_normal ?_
    refine wp_block ?_
    obtain ⟨J_16, mu_17, h0137, ht136⟩ := ht9
    refine wp_loop_st (σ := Int × World) (fun s a w => Ag 47 a [(0, Sl.v l_1), (3, .int .i64 s.1)] ∧ w = s.2 ∧ J_16 s.1 s.2) (fun s => mu_17 s.1 s.2) (0, w) ⟨hA13.keep [(0, Sl.v l_1), (3, .int .i64 0)] ⟨rfl, rfl, trivial⟩, rfl, h0137⟩ ?_
    rintro ⟨i_14, w15⟩ a135 w_ ⟨hA135, hw_, hJ139⟩
    have hw_ : w15 = w_ := hw_.symm
    subst hw_
    have ht138 := ht136 i_14 _ hJ139
    refine wp_seq ?_
    refine wp_seq ?_
    refine wp_region_lit ?_
    refine sq (opk_val hA135 rfl (r_move (hA135.get rfl)) fun a140 hA140 _ => ?_)
    refine sq (opk_val hA140 rfl (r_move (hA140.get rfl)) fun a141 hA141 _ => ?_)
    refine sq (opk_val hA141 rfl (r_len (hA141.get rfl) Try.underlying23) fun a142 hA142 _ => ?_)
    refine sq (opk_val hA142 rfl (r_lss (hA142.get rfl) (hA142.get rfl)) fun a143 hA143 _ => ?_)
    refine sq_end ?_
    have hA144 := hA143.keep [(0, Sl.v l_1), (3, .int .i64 i_14), (10, .bool (decide (i_14 < (l_1.n : Int))))] ⟨rfl, rfl, rfl, trivial⟩
    refine then_normal ?_
    refine wp_cond_split (hA144.get rfl) (fun hc => ?_) (fun hc => ?_)
    · have ht145 := ht138.1 (of_decide_eq_true hc)
      clear hc
      refine wp_skip ?_
      refine then_normal ?_
      refine wp_seq ?_
      refine wp_block ?_
      refine wp_seq ?_
      refine draw' (by kernel_rfl) fun w147 hE148 => ?_
      have hC149 : Chg [] w15 w147 := hE148
      have ht150 := ht145 w147    hC149
      obtain ⟨p_153, hp154, ht155⟩ := ht150
      obtain ⟨x_158, hx159, ht160⟩ := ht155
      obtain ⟨r_162, hc163, ht164⟩ := ht160
      obtain ⟨p_172, hp173, ht174⟩ := ht164
      obtain ⟨x_179, hx180, ht181⟩ := ht174
      obtain ⟨p_199, hp200, ht201⟩ := ht181
      obtain ⟨x_206, hx207, ht208⟩ := ht201
      obtain ⟨hS213, ht214⟩ := ht208
      obtain ⟨p_218, hp219, ht220⟩ := ht214
      obtain ⟨x_225, hx226, ht227⟩ := ht220
      refine par (D := [[], [], [0, 1], [0, 1, 2], [0, 1, 2, 3], [0, 1, 2, 3, 4], [0, 1, 2, 3, 4, 5], [0, 1, 2, 3, 4, 5, 6], [0, 1, 2, 3, 4, 5, 6, 7], [0, 1, 2, 3, 4, 5, 6, 7], [0, 1, 2, 3, 4, 5, 6, 7, 8, 9], [0, 1, 2, 3, 4, 5, 6, 7, 8, 9, 10], [0, 1, 2, 3, 4, 5, 6, 7, 8, 9, 10, 11], [0, 1, 2, 3, 4, 5, 6, 7, 8, 9, 10, 11, 12], [0, 1, 2, 3, 4, 5, 6, 7, 8, 9, 10, 11, 12, 13], [0, 1, 2, 3, 4, 5, 6, 7, 8, 9, 10, 11, 12, 13, 14], [0, 1, 2, 3, 4, 5, 6, 7, 8, 9, 10, 11, 12, 13, 14, 15], [0, 1, 2, 3, 4, 5, 6, 7, 8, 9, 10, 11, 12, 13, 14, 15, 16], [0, 1, 2, 3, 4, 5, 6, 7, 8, 9, 10, 11, 12, 13, 14, 15, 16, 17], [0, 1, 2, 3, 4, 5, 6, 7, 8, 9, 10, 11, 12, 13, 14, 15, 16, 17, 18], [0, 1, 2, 3, 4, 5, 6, 7, 8, 9, 10, 11, 12, 13, 14, 15, 16, 17, 18, 19], [0, 1, 2, 3, 4, 5, 6, 7, 8, 9, 10, 11, 12, 13, 14, 15, 16, 17, 18, 19], [0, 1, 2, 3, 4, 5, 6, 7, 8, 9, 10, 11, 12, 13, 14, 15, 16, 17, 18, 19, 20, 21], [0, 1, 2, 3, 4, 5, 6, 7, 8, 9, 10, 11, 12, 13, 14, 15, 16, 17, 18, 19, 20, 21, 22], [0, 1, 2, 3, 4, 5, 6, 7, 8, 9, 10, 11, 12, 13, 14, 15, 16, 17, 18, 19, 20, 21, 22, 23], [0, 1, 2, 3, 4, 5, 6, 7, 8, 9, 10, 11, 12, 13, 14, 15, 16, 17, 18, 19], [0, 1, 2, 3, 4, 5, 6, 7, 8, 9, 10, 11, 12, 13, 14, 15, 16, 17, 18, 19], [0, 1, 2, 3, 4, 5, 6, 7, 8, 9, 10, 11, 12, 13, 14, 15, 16, 17, 18, 19, 26], [0, 1, 2, 3, 4, 5, 6, 7, 8, 9, 10, 11, 12, 13, 14, 15, 16, 17, 18, 19, 25, 26, 27], [0, 1, 2, 3, 4, 5, 6, 7, 8, 9, 10, 11, 12, 13, 14, 15, 16, 17, 18, 19, 25, 26, 27, 28], [0, 1, 2, 3, 4, 5, 6, 7, 8, 9, 10, 11, 12, 13, 14, 15, 16, 17, 18, 19, 25, 26, 27, 28, 29], [0, 1, 2, 3, 4, 5, 6, 7, 8, 9, 10, 11, 12, 13, 14, 15, 16, 17, 18, 19, 20, 21, 22, 23, 24, 25, 26, 27, 28, 29, 30], [0, 1, 2, 3, 4, 5, 6, 7, 8, 9, 10, 11, 12, 13, 14, 15, 16, 17, 18, 19, 20, 21, 22, 23, 24, 25, 26, 27, 28, 29, 30, 31], [0, 1, 2, 3, 4, 5, 6, 7, 8, 9, 10, 11, 12, 13, 14, 15, 16, 17, 18, 19, 20, 21, 22, 23, 24, 25, 26, 27, 28, 29, 30, 31, 32]]) (S := [0, 1, 2, 3, 4, 5, 6, 7, 8, 9, 10, 11, 12, 13, 14, 15, 16, 17, 18, 19, 20, 21, 22, 23, 24, 25, 26, 27, 28, 29, 30, 31, 32, 33]) (F := []) (V := VL [(0, fun v _ => v = Sl.v l_1), (1, fun v _ => v = .int .i64 i_14), (2, fun v _ => v = .pointer (some (p_153.add (i_14.toNat * 2)))), (3, fun v _ => v = .pointer (some ((p_153.add (i_14.toNat * 2)).add 0))), (4, fun v _ => v = .string (Bs x_158)), (5, fun v _ => v = .bool r_162), (6, fun v _ => v = .bool (!r_162)), (7, fun v _ => v = .bool (!r_162)), (8, fun v _ => v = cV (true && ((!r_162) == false)) (Sl.v l_1)), (9, fun v _ => v = cV (true && ((!r_162) == false)) (.int .i64 i_14)), (10, fun v _ => v = cV (true && ((!r_162) == false)) (.pointer (some (p_172.add (i_14.toNat * 2))))), (11, fun v _ => v = cV (true && ((!r_162) == false)) (.pointer (some ((p_172.add (i_14.toNat * 2)).add 1)))), (12, fun v _ => v = cV (true && ((!r_162) == false)) (.string (Bs x_179))), (13, fun v _ => v = cV (true && ((!r_162) == false)) (.int .i64 (x_179.length : Int))), (14, fun v _ => v = cV (true && ((!r_162) == false)) (.bool (decide (4096 < (x_179.length : Int))))), (15, fun v _ => v = .bool ((!r_162) || (decide (4096 < (x_179.length : Int))))), (16, fun v _ => v = .bool ((!r_162) || (decide (4096 < (x_179.length : Int))))), (17, fun v _ => v = cV (true && (((!r_162) || (decide (4096 < (x_179.length : Int)))) == false)) (.int .i64 i_14)), (18, fun v _ => v = cV (true && (((!r_162) || (decide (4096 < (x_179.length : Int)))) == false)) (.bool (decide (0 < i_14)))), (19, fun v _ => v = cV (true && (((!r_162) || (decide (4096 < (x_179.length : Int)))) == false)) (.bool (decide (0 < i_14)))), (20, fun v _ => v = cV ((true && (((!r_162) || (decide (4096 < (x_179.length : Int)))) == false)) && ((decide (0 < i_14)) == true)) (Sl.v l_1)), (21, fun v _ => v = cV ((true && (((!r_162) || (decide (4096 < (x_179.length : Int)))) == false)) && ((decide (0 < i_14)) == true)) (.int .i64 i_14)), (22, fun v _ => v = cV ((true && (((!r_162) || (decide (4096 < (x_179.length : Int)))) == false)) && ((decide (0 < i_14)) == true)) (.pointer (some (p_199.add (i_14.toNat * 2))))), (23, fun v _ => v = cV ((true && (((!r_162) || (decide (4096 < (x_179.length : Int)))) == false)) && ((decide (0 < i_14)) == true)) (.pointer (some ((p_199.add (i_14.toNat * 2)).add 0)))), (24, fun v _ => v = cV ((true && (((!r_162) || (decide (4096 < (x_179.length : Int)))) == false)) && ((decide (0 < i_14)) == true)) (.string (Bs x_206))), (25, fun v _ => v = cV ((true && (((!r_162) || (decide (4096 < (x_179.length : Int)))) == false)) && ((decide (0 < i_14)) == true)) (Sl.v l_1)), (26, fun v _ => v = cV ((true && (((!r_162) || (decide (4096 < (x_179.length : Int)))) == false)) && ((decide (0 < i_14)) == true)) (.int .i64 i_14)), (27, fun v _ => v = cV ((true && (((!r_162) || (decide (4096 < (x_179.length : Int)))) == false)) && ((decide (0 < i_14)) == true)) (.int .i64 (i_14 - 1))), (28, fun v _ => v = cV ((true && (((!r_162) || (decide (4096 < (x_179.length : Int)))) == false)) && ((decide (0 < i_14)) == true)) (.pointer (some (p_218.add ((i_14 - 1).toNat * 2))))), (29, fun v _ => v = cV ((true && (((!r_162) || (decide (4096 < (x_179.length : Int)))) == false)) && ((decide (0 < i_14)) == true)) (.pointer (some ((p_218.add ((i_14 - 1).toNat * 2)).add 0)))), (30, fun v _ => v = cV ((true && (((!r_162) || (decide (4096 < (x_179.length : Int)))) == false)) && ((decide (0 < i_14)) == true)) (.string (Bs x_225))), (31, fun v _ => v = cV ((true && (((!r_162) || (decide (4096 < (x_179.length : Int)))) == false)) && ((decide (0 < i_14)) == true)) (.bool ((Op.bytesLess x_206 x_225) || (decide (x_206 = x_225))))), (32, fun v _ => v = cV (true && (((!r_162) || (decide (4096 < (x_179.length : Int)))) == false)) (.bool ((decide (0 < i_14)) && ((Op.bytesLess x_206 x_225) || (decide (x_206 = x_225)))))), (33, fun v _ => v = .bool (((!r_162) || (decide (4096 < (x_179.length : Int)))) || ((decide (0 < i_14)) && ((Op.bytesLess x_206 x_225) || (decide (x_206 = x_225))))))]) hA144 (by kernel_rfl) ⟨fun _ _ _ _ h => by first | exact h | (change _ = _ at h; change _ = _; exact h), fun _ _ _ _ h => by first | exact h | (change _ = _ at h; change _ = _; exact h), fun _ _ _ _ h => by first | exact h | (change _ = _ at h; change _ = _; exact h), fun _ _ _ _ h => by first | exact h | (change _ = _ at h; change _ = _; exact h), fun _ _ _ _ h => by first | exact h | (change _ = _ at h; change _ = _; exact h), fun _ _ _ _ h => by first | exact h | (change _ = _ at h; change _ = _; exact h), fun _ _ _ _ h => by first | exact h | (change _ = _ at h; change _ = _; exact h), fun _ _ _ _ h => by first | exact h | (change _ = _ at h; change _ = _; exact h), fun _ _ _ _ h => by first | exact h | (change _ = _ at h; change _ = _; exact h), fun _ _ _ _ h => by first | exact h | (change _ = _ at h; change _ = _; exact h), fun _ _ _ _ h => by first | exact h | (change _ = _ at h; change _ = _; exact h), fun _ _ _ _ h => by first | exact h | (change _ = _ at h; change _ = _; exact h), fun _ _ _ _ h => by first | exact h | (change _ = _ at h; change _ = _; exact h), fun _ _ _ _ h => by first | exact h | (change _ = _ at h; change _ = _; exact h), fun _ _ _ _ h => by first | exact h | (change _ = _ at h; change _ = _; exact h), fun _ _ _ _ h => by first | exact h | (change _ = _ at h; change _ = _; exact h), fun _ _ _ _ h => by first | exact h | (change _ = _ at h; change _ = _; exact h), fun _ _ _ _ h => by first | exact h | (change _ = _ at h; change _ = _; exact h), fun _ _ _ _ h => by first | exact h | (change _ = _ at h; change _ = _; exact h), fun _ _ _ _ h => by first | exact h | (change _ = _ at h; change _ = _; exact h), fun _ _ _ _ h => by first | exact h | (change _ = _ at h; change _ = _; exact h), fun _ _ _ _ h => by first | exact h | (change _ = _ at h; change _ = _; exact h), fun _ _ _ _ h => by first | exact h | (change _ = _ at h; change _ = _; exact h), fun _ _ _ _ h => by first | exact h | (change _ = _ at h; change _ = _; exact h), fun _ _ _ _ h => by first | exact h | (change _ = _ at h; change _ = _; exact h), fun _ _ _ _ h => by first | exact h | (change _ = _ at h; change _ = _; exact h), fun _ _ _ _ h => by first | exact h | (change _ = _ at h; change _ = _; exact h), fun _ _ _ _ h => by first | exact h | (change _ = _ at h; change _ = _; exact h), fun _ _ _ _ h => by first | exact h | (change _ = _ at h; change _ = _; exact h), fun _ _ _ _ h => by first | exact h | (change _ = _ at h; change _ = _; exact h), fun _ _ _ _ h => by first | exact h | (change _ = _ at h; change _ = _; exact h), fun _ _ _ _ h => by first | exact h | (change _ = _ at h; change _ = _; exact h), fun _ _ _ _ h => by first | exact h | (change _ = _ at h; change _ = _; exact h), fun _ _ _ _ h => by first | exact h | (change _ = _ at h; change _ = _; exact h), trivial⟩ ⟨?_, ?_, ?_, ?_, ?_, ?_, ?_, ?_, ?_, ?_, ?_, ?_, ?_, ?_, ?_, ?_, ?_, ?_, ?_, ?_, ?_, ?_, ?_, ?_, ?_, ?_, ?_, ?_, ?_, ?_, ?_, ?_, ?_, ?_, trivial⟩ ?_
      · intro a w hT
        have hAp := hT.ag hA144 [(0, Sl.v l_1)] ⟨rfl, trivial⟩ (by kernel_rfl)
        exact opk_val hAp rfl (r_move (hAp.get rfl)) fun _ _ e => ⟨_, e, Chg.refl _ _, fun _ => Eq.refl _⟩
      · intro a w hT
        have hAp := hT.ag hA144 [(3, .int .i64 i_14)] ⟨rfl, trivial⟩ (by kernel_rfl)
        exact opk_val hAp rfl (r_move (hAp.get rfl)) fun _ _ e => ⟨_, e, Chg.refl _ _, fun _ => Eq.refl _⟩
      · intro a w hT
        have hAp := hT.ag hA144 [] trivial (by kernel_rfl)
        have e151 : a.tmps.getD 13 undef = Sl.v l_1 := hT.vals 0 rfl 13 rfl
        have hAp := hAp.add e151
        have e152 : a.tmps.getD 14 undef = .int .i64 i_14 := hT.vals 1 rfl 14 rfl
        have hAp := hAp.add e152
        exact opk_val hAp rfl (r_indexAddr (hAp.get rfl) (hAp.get rfl) Try.underlying23 ti_33 hp154.1 hp154.2) fun _ _ e => ⟨_, e, Chg.refl _ _, fun _ => Eq.refl _⟩
      · intro a w hT
        have hAp := hT.ag hA144 [] trivial (by kernel_rfl)
        have e156 : a.tmps.getD 15 undef = .pointer (some (p_153.add (i_14.toNat * 2))) := hT.vals 2 rfl 15 rfl
        have hAp := hAp.add e156
        exact opk_val hAp rfl (r_fieldAddr (hAp.get rfl) Try.underlying33 rfl ti_9 (by decide)) fun _ _ e => ⟨_, e, Chg.refl _ _, fun _ => Eq.refl _⟩
      · intro a w hT
        have hAp := hT.ag hA144 [] trivial (by kernel_rfl)
        have e157 : a.tmps.getD 16 undef = .pointer (some ((p_153.add (i_14.toNat * 2)).add 0)) := hT.vals 3 rfl 16 rfl
        have hAp := hAp.add e157
        exact opk_val hAp rfl (r_load1 Try.underlying9 rfl (hAp.get rfl) (Ext.cell hT.chg hx159)) fun _ _ e => ⟨_, e, Chg.refl _ _, fun _ => Eq.refl _⟩
      · intro a w hT
        have hAp := hT.ag hA144 [] trivial (by kernel_rfl)
        have e161 : a.tmps.getD 17 undef = .string (Bs x_158) := hT.vals 4 rfl 17 rfl
        have hAp := hAp.add e161
        exact opk_callX hAp rfl (r_call (args := #[.string (Bs x_158)]) Try.func28 (by decide) rfl (map_arr (ml_cons (hAp.get rfl) ml_nil)) rfl) (hc163 w hT.chg) fun _ _ _ _ e hR => ⟨_, e, hR.1, fun _ => hR.2⟩
      · intro a w hT
        have hAp := hT.ag hA144 [] trivial (by kernel_rfl)
        have e165 : a.tmps.getD 18 undef = .bool r_162 := hT.vals 5 rfl 18 rfl
        have hAp := hAp.add e165
        exact opk_val hAp rfl (r_not (hAp.get rfl)) fun _ _ e => ⟨_, e, Chg.refl _ _, fun _ => Eq.refl _⟩
      · intro a w hT
        have hAp := hT.ag hA144 [] trivial (by kernel_rfl)
        have e166 : a.tmps.getD 19 undef = .bool (!r_162) := hT.vals 6 rfl 19 rfl
        have hAp := hAp.add e166
        exact opk_val hAp rfl (r_move (hAp.get rfl)) fun _ _ e => ⟨_, e, Chg.refl _ _, fun _ => Eq.refl _⟩
      · intro a w hT
        have hAp := hT.ag hA144 [(0, Sl.v l_1)] ⟨rfl, trivial⟩ (by kernel_rfl)
        have e167 : a.tmps.getD 20 undef = .bool (!r_162) := hT.vals 7 rfl 20 rfl
        have hAp := hAp.add e167
        exact opk_gval hAp rfl rfl (g := true) (e := (!r_162)) rfl (fun hg => r_move (hAp.get rfl)) fun _ _ e => ⟨_, e, Chg.refl _ _, fun _ => Eq.refl _⟩
      · intro a w hT
        have hAp := hT.ag hA144 [(3, .int .i64 i_14)] ⟨rfl, trivial⟩ (by kernel_rfl)
        have e168 : a.tmps.getD 20 undef = .bool (!r_162) := hT.vals 7 rfl 20 rfl
        have hAp := hAp.add e168
        exact opk_gval hAp rfl rfl (g := true) (e := (!r_162)) rfl (fun hg => r_move (hAp.get rfl)) fun _ _ e => ⟨_, e, Chg.refl _ _, fun _ => Eq.refl _⟩
      · intro a w hT
        have hAp := hT.ag hA144 [] trivial (by kernel_rfl)
        have e169 : a.tmps.getD 20 undef = .bool (!r_162) := hT.vals 7 rfl 20 rfl
        have hAp := hAp.add e169
        have e170 : a.tmps.getD 21 undef = cV (true && ((!r_162) == false)) (Sl.v l_1) := hT.vals 8 rfl 21 rfl
        have hAp := hAp.add e170
        have e171 : a.tmps.getD 22 undef = cV (true && ((!r_162) == false)) (.int .i64 i_14) := hT.vals 9 rfl 22 rfl
        have hAp := hAp.add e171
        exact opk_gval hAp rfl rfl (g := true) (e := (!r_162)) rfl (fun hg => r_indexAddr (cv_get (hAp.get rfl) hg) (cv_get (hAp.get rfl) hg) Try.underlying23 ti_33 (hp173 (b_not_f (g_f hg))).1 (hp173 (b_not_f (g_f hg))).2) fun _ _ e => ⟨_, e, Chg.refl _ _, fun _ => Eq.refl _⟩
      · intro a w hT
        have hAp := hT.ag hA144 [] trivial (by kernel_rfl)
        have e175 : a.tmps.getD 20 undef = .bool (!r_162) := hT.vals 7 rfl 20 rfl
        have hAp := hAp.add e175
        have e176 : a.tmps.getD 23 undef = cV (true && ((!r_162) == false)) (.pointer (some (p_172.add (i_14.toNat * 2)))) := hT.vals 10 rfl 23 rfl
        have hAp := hAp.add e176
        exact opk_gval hAp rfl rfl (g := true) (e := (!r_162)) rfl (fun hg => r_fieldAddr (cv_get (hAp.get rfl) hg) Try.underlying33 rfl ti_9 (by decide)) fun _ _ e => ⟨_, e, Chg.refl _ _, fun _ => Eq.refl _⟩
      · intro a w hT
        have hAp := hT.ag hA144 [] trivial (by kernel_rfl)
        have e177 : a.tmps.getD 20 undef = .bool (!r_162) := hT.vals 7 rfl 20 rfl
        have hAp := hAp.add e177
        have e178 : a.tmps.getD 24 undef = cV (true && ((!r_162) == false)) (.pointer (some ((p_172.add (i_14.toNat * 2)).add 1))) := hT.vals 11 rfl 24 rfl
        have hAp := hAp.add e178
        exact opk_gval hAp rfl rfl (g := true) (e := (!r_162)) rfl (fun hg => r_load1 Try.underlying9 rfl (cv_get (hAp.get rfl) hg) (Ext.cell hT.chg (hx180 (b_not_f (g_f hg))))) fun _ _ e => ⟨_, e, Chg.refl _ _, fun _ => Eq.refl _⟩
      · intro a w hT
        have hAp := hT.ag hA144 [] trivial (by kernel_rfl)
        have e182 : a.tmps.getD 20 undef = .bool (!r_162) := hT.vals 7 rfl 20 rfl
        have hAp := hAp.add e182
        have e183 : a.tmps.getD 25 undef = cV (true && ((!r_162) == false)) (.string (Bs x_179)) := hT.vals 12 rfl 25 rfl
        have hAp := hAp.add e183
        exact opk_gval hAp rfl rfl (g := true) (e := (!r_162)) rfl (fun hg => r_slen (cv_get (hAp.get rfl) hg) Try.underlying9) fun _ _ e => ⟨_, e, Chg.refl _ _, fun _ => Eq.refl _⟩
      · intro a w hT
        have hAp := hT.ag hA144 [] trivial (by kernel_rfl)
        have e184 : a.tmps.getD 20 undef = .bool (!r_162) := hT.vals 7 rfl 20 rfl
        have hAp := hAp.add e184
        have e185 : a.tmps.getD 26 undef = cV (true && ((!r_162) == false)) (.int .i64 (x_179.length : Int)) := hT.vals 13 rfl 26 rfl
        have hAp := hAp.add e185
        exact opk_gval hAp rfl rfl (g := true) (e := (!r_162)) rfl (fun hg => r_gtr (cv_get (hAp.get rfl) hg) rfl) fun _ _ e => ⟨_, e, Chg.refl _ _, fun _ => Eq.refl _⟩
      · intro a w hT
        have hAp := hT.ag hA144 [] trivial (by kernel_rfl)
        have e186 : a.tmps.getD 20 undef = .bool (!r_162) := hT.vals 7 rfl 20 rfl
        have hAp := hAp.add e186
        have e187 : a.tmps.getD 27 undef = cV (true && ((!r_162) == false)) (.bool (decide (4096 < (x_179.length : Int)))) := hT.vals 14 rfl 27 rfl
        have hAp := hAp.add e187
        exact opk_val hAp rfl (r_pick_or (g := (true && ((!r_162) == false))) (hAp.get rfl) (hAp.get rfl) (fun he => g_mkf rfl he)) fun _ _ e => ⟨_, e, Chg.refl _ _, fun _ => Eq.refl _⟩
      · intro a w hT
        have hAp := hT.ag hA144 [] trivial (by kernel_rfl)
        have e188 : a.tmps.getD 28 undef = .bool ((!r_162) || (decide (4096 < (x_179.length : Int)))) := hT.vals 15 rfl 28 rfl
        have hAp := hAp.add e188
        exact opk_val hAp rfl (r_move (hAp.get rfl)) fun _ _ e => ⟨_, e, Chg.refl _ _, fun _ => Eq.refl _⟩
      · intro a w hT
        have hAp := hT.ag hA144 [(3, .int .i64 i_14)] ⟨rfl, trivial⟩ (by kernel_rfl)
        have e189 : a.tmps.getD 29 undef = .bool ((!r_162) || (decide (4096 < (x_179.length : Int)))) := hT.vals 16 rfl 29 rfl
        have hAp := hAp.add e189
        exact opk_gval hAp rfl rfl (g := true) (e := ((!r_162) || (decide (4096 < (x_179.length : Int))))) rfl (fun hg => r_move (hAp.get rfl)) fun _ _ e => ⟨_, e, Chg.refl _ _, fun _ => Eq.refl _⟩
      · intro a w hT
        have hAp := hT.ag hA144 [] trivial (by kernel_rfl)
        have e190 : a.tmps.getD 29 undef = .bool ((!r_162) || (decide (4096 < (x_179.length : Int)))) := hT.vals 16 rfl 29 rfl
        have hAp := hAp.add e190
        have e191 : a.tmps.getD 30 undef = cV (true && (((!r_162) || (decide (4096 < (x_179.length : Int)))) == false)) (.int .i64 i_14) := hT.vals 17 rfl 30 rfl
        have hAp := hAp.add e191
        exact opk_gval hAp rfl rfl (g := true) (e := ((!r_162) || (decide (4096 < (x_179.length : Int))))) rfl (fun hg => r_gtr (cv_get (hAp.get rfl) hg) rfl) fun _ _ e => ⟨_, e, Chg.refl _ _, fun _ => Eq.refl _⟩
      · intro a w hT
        have hAp := hT.ag hA144 [] trivial (by kernel_rfl)
        have e192 : a.tmps.getD 29 undef = .bool ((!r_162) || (decide (4096 < (x_179.length : Int)))) := hT.vals 16 rfl 29 rfl
        have hAp := hAp.add e192
        have e193 : a.tmps.getD 31 undef = cV (true && (((!r_162) || (decide (4096 < (x_179.length : Int)))) == false)) (.bool (decide (0 < i_14))) := hT.vals 18 rfl 31 rfl
        have hAp := hAp.add e193
        exact opk_gval hAp rfl rfl (g := true) (e := ((!r_162) || (decide (4096 < (x_179.length : Int))))) rfl (fun hg => r_move (cv_get (hAp.get rfl) hg)) fun _ _ e => ⟨_, e, Chg.refl _ _, fun _ => Eq.refl _⟩
      · intro a w hT
        have hAp := hT.ag hA144 [(0, Sl.v l_1)] ⟨rfl, trivial⟩ (by kernel_rfl)
        have e194 : a.tmps.getD 32 undef = cV (true && (((!r_162) || (decide (4096 < (x_179.length : Int)))) == false)) (.bool (decide (0 < i_14))) := hT.vals 19 rfl 32 rfl
        have hAp := hAp.add e194
        exact opk_gval hAp rfl rfl (g := (true && (((!r_162) || (decide (4096 < (x_179.length : Int)))) == false))) (e := (decide (0 < i_14))) rfl (fun hg => r_move (hAp.get rfl)) fun _ _ e => ⟨_, e, Chg.refl _ _, fun _ => Eq.refl _⟩
      · intro a w hT
        have hAp := hT.ag hA144 [(3, .int .i64 i_14)] ⟨rfl, trivial⟩ (by kernel_rfl)
        have e195 : a.tmps.getD 32 undef = cV (true && (((!r_162) || (decide (4096 < (x_179.length : Int)))) == false)) (.bool (decide (0 < i_14))) := hT.vals 19 rfl 32 rfl
        have hAp := hAp.add e195
        exact opk_gval hAp rfl rfl (g := (true && (((!r_162) || (decide (4096 < (x_179.length : Int)))) == false))) (e := (decide (0 < i_14))) rfl (fun hg => r_move (hAp.get rfl)) fun _ _ e => ⟨_, e, Chg.refl _ _, fun _ => Eq.refl _⟩
      · intro a w hT
        have hAp := hT.ag hA144 [] trivial (by kernel_rfl)
        have e196 : a.tmps.getD 32 undef = cV (true && (((!r_162) || (decide (4096 < (x_179.length : Int)))) == false)) (.bool (decide (0 < i_14))) := hT.vals 19 rfl 32 rfl
        have hAp := hAp.add e196
        have e197 : a.tmps.getD 33 undef = cV ((true && (((!r_162) || (decide (4096 < (x_179.length : Int)))) == false)) && ((decide (0 < i_14)) == true)) (Sl.v l_1) := hT.vals 20 rfl 33 rfl
        have hAp := hAp.add e197
        have e198 : a.tmps.getD 34 undef = cV ((true && (((!r_162) || (decide (4096 < (x_179.length : Int)))) == false)) && ((decide (0 < i_14)) == true)) (.int .i64 i_14) := hT.vals 21 rfl 34 rfl
        have hAp := hAp.add e198
        exact opk_gval hAp rfl rfl (g := (true && (((!r_162) || (decide (4096 < (x_179.length : Int)))) == false))) (e := (decide (0 < i_14))) rfl (fun hg => r_indexAddr (cv_get (hAp.get rfl) hg) (cv_get (hAp.get rfl) hg) Try.underlying23 ti_33 (hp200 ⟨⟨(b_not_f (b_or_f (g_f (g_up hg))).1), (of_decide_eq_false (b_or_f (g_f (g_up hg))).2)⟩, (of_decide_eq_true (g_t hg))⟩).1 (hp200 ⟨⟨(b_not_f (b_or_f (g_f (g_up hg))).1), (of_decide_eq_false (b_or_f (g_f (g_up hg))).2)⟩, (of_decide_eq_true (g_t hg))⟩).2) fun _ _ e => ⟨_, e, Chg.refl _ _, fun _ => Eq.refl _⟩
      · intro a w hT
        have hAp := hT.ag hA144 [] trivial (by kernel_rfl)
        have e202 : a.tmps.getD 32 undef = cV (true && (((!r_162) || (decide (4096 < (x_179.length : Int)))) == false)) (.bool (decide (0 < i_14))) := hT.vals 19 rfl 32 rfl
        have hAp := hAp.add e202
        have e203 : a.tmps.getD 35 undef = cV ((true && (((!r_162) || (decide (4096 < (x_179.length : Int)))) == false)) && ((decide (0 < i_14)) == true)) (.pointer (some (p_199.add (i_14.toNat * 2)))) := hT.vals 22 rfl 35 rfl
        have hAp := hAp.add e203
        exact opk_gval hAp rfl rfl (g := (true && (((!r_162) || (decide (4096 < (x_179.length : Int)))) == false))) (e := (decide (0 < i_14))) rfl (fun hg => r_fieldAddr (cv_get (hAp.get rfl) hg) Try.underlying33 rfl ti_9 (by decide)) fun _ _ e => ⟨_, e, Chg.refl _ _, fun _ => Eq.refl _⟩
      · intro a w hT
        have hAp := hT.ag hA144 [] trivial (by kernel_rfl)
        have e204 : a.tmps.getD 32 undef = cV (true && (((!r_162) || (decide (4096 < (x_179.length : Int)))) == false)) (.bool (decide (0 < i_14))) := hT.vals 19 rfl 32 rfl
        have hAp := hAp.add e204
        have e205 : a.tmps.getD 36 undef = cV ((true && (((!r_162) || (decide (4096 < (x_179.length : Int)))) == false)) && ((decide (0 < i_14)) == true)) (.pointer (some ((p_199.add (i_14.toNat * 2)).add 0))) := hT.vals 23 rfl 36 rfl
        have hAp := hAp.add e205
        exact opk_gval hAp rfl rfl (g := (true && (((!r_162) || (decide (4096 < (x_179.length : Int)))) == false))) (e := (decide (0 < i_14))) rfl (fun hg => r_load1 Try.underlying9 rfl (cv_get (hAp.get rfl) hg) (Ext.cell hT.chg (hx207 ⟨⟨(b_not_f (b_or_f (g_f (g_up hg))).1), (of_decide_eq_false (b_or_f (g_f (g_up hg))).2)⟩, (of_decide_eq_true (g_t hg))⟩))) fun _ _ e => ⟨_, e, Chg.refl _ _, fun _ => Eq.refl _⟩
      · intro a w hT
        have hAp := hT.ag hA144 [(0, Sl.v l_1)] ⟨rfl, trivial⟩ (by kernel_rfl)
        have e209 : a.tmps.getD 32 undef = cV (true && (((!r_162) || (decide (4096 < (x_179.length : Int)))) == false)) (.bool (decide (0 < i_14))) := hT.vals 19 rfl 32 rfl
        have hAp := hAp.add e209
        exact opk_gval hAp rfl rfl (g := (true && (((!r_162) || (decide (4096 < (x_179.length : Int)))) == false))) (e := (decide (0 < i_14))) rfl (fun hg => r_move (hAp.get rfl)) fun _ _ e => ⟨_, e, Chg.refl _ _, fun _ => Eq.refl _⟩
      · intro a w hT
        have hAp := hT.ag hA144 [(3, .int .i64 i_14)] ⟨rfl, trivial⟩ (by kernel_rfl)
        have e210 : a.tmps.getD 32 undef = cV (true && (((!r_162) || (decide (4096 < (x_179.length : Int)))) == false)) (.bool (decide (0 < i_14))) := hT.vals 19 rfl 32 rfl
        have hAp := hAp.add e210
        exact opk_gval hAp rfl rfl (g := (true && (((!r_162) || (decide (4096 < (x_179.length : Int)))) == false))) (e := (decide (0 < i_14))) rfl (fun hg => r_move (hAp.get rfl)) fun _ _ e => ⟨_, e, Chg.refl _ _, fun _ => Eq.refl _⟩
      · intro a w hT
        have hAp := hT.ag hA144 [] trivial (by kernel_rfl)
        have e211 : a.tmps.getD 32 undef = cV (true && (((!r_162) || (decide (4096 < (x_179.length : Int)))) == false)) (.bool (decide (0 < i_14))) := hT.vals 19 rfl 32 rfl
        have hAp := hAp.add e211
        have e212 : a.tmps.getD 39 undef = cV ((true && (((!r_162) || (decide (4096 < (x_179.length : Int)))) == false)) && ((decide (0 < i_14)) == true)) (.int .i64 i_14) := hT.vals 26 rfl 39 rfl
        have hAp := hAp.add e212
        exact opk_gval hAp rfl rfl (g := (true && (((!r_162) || (decide (4096 < (x_179.length : Int)))) == false))) (e := (decide (0 < i_14))) rfl (fun hg => r_subI (cv_get (hAp.get rfl) hg) rfl (hS213 ⟨⟨(b_not_f (b_or_f (g_f (g_up hg))).1), (of_decide_eq_false (b_or_f (g_f (g_up hg))).2)⟩, (of_decide_eq_true (g_t hg))⟩)) fun _ _ e => ⟨_, e, Chg.refl _ _, fun _ => Eq.refl _⟩
      · intro a w hT
        have hAp := hT.ag hA144 [] trivial (by kernel_rfl)
        have e215 : a.tmps.getD 32 undef = cV (true && (((!r_162) || (decide (4096 < (x_179.length : Int)))) == false)) (.bool (decide (0 < i_14))) := hT.vals 19 rfl 32 rfl
        have hAp := hAp.add e215
        have e216 : a.tmps.getD 38 undef = cV ((true && (((!r_162) || (decide (4096 < (x_179.length : Int)))) == false)) && ((decide (0 < i_14)) == true)) (Sl.v l_1) := hT.vals 25 rfl 38 rfl
        have hAp := hAp.add e216
        have e217 : a.tmps.getD 40 undef = cV ((true && (((!r_162) || (decide (4096 < (x_179.length : Int)))) == false)) && ((decide (0 < i_14)) == true)) (.int .i64 (i_14 - 1)) := hT.vals 27 rfl 40 rfl
        have hAp := hAp.add e217
        exact opk_gval hAp rfl rfl (g := (true && (((!r_162) || (decide (4096 < (x_179.length : Int)))) == false))) (e := (decide (0 < i_14))) rfl (fun hg => r_indexAddr (cv_get (hAp.get rfl) hg) (cv_get (hAp.get rfl) hg) Try.underlying23 ti_33 (hp219 ⟨⟨(b_not_f (b_or_f (g_f (g_up hg))).1), (of_decide_eq_false (b_or_f (g_f (g_up hg))).2)⟩, (of_decide_eq_true (g_t hg))⟩).1 (hp219 ⟨⟨(b_not_f (b_or_f (g_f (g_up hg))).1), (of_decide_eq_false (b_or_f (g_f (g_up hg))).2)⟩, (of_decide_eq_true (g_t hg))⟩).2) fun _ _ e => ⟨_, e, Chg.refl _ _, fun _ => Eq.refl _⟩
      · intro a w hT
        have hAp := hT.ag hA144 [] trivial (by kernel_rfl)
        have e221 : a.tmps.getD 32 undef = cV (true && (((!r_162) || (decide (4096 < (x_179.length : Int)))) == false)) (.bool (decide (0 < i_14))) := hT.vals 19 rfl 32 rfl
        have hAp := hAp.add e221
        have e222 : a.tmps.getD 41 undef = cV ((true && (((!r_162) || (decide (4096 < (x_179.length : Int)))) == false)) && ((decide (0 < i_14)) == true)) (.pointer (some (p_218.add ((i_14 - 1).toNat * 2)))) := hT.vals 28 rfl 41 rfl
        have hAp := hAp.add e222
        exact opk_gval hAp rfl rfl (g := (true && (((!r_162) || (decide (4096 < (x_179.length : Int)))) == false))) (e := (decide (0 < i_14))) rfl (fun hg => r_fieldAddr (cv_get (hAp.get rfl) hg) Try.underlying33 rfl ti_9 (by decide)) fun _ _ e => ⟨_, e, Chg.refl _ _, fun _ => Eq.refl _⟩
      · intro a w hT
        have hAp := hT.ag hA144 [] trivial (by kernel_rfl)
        have e223 : a.tmps.getD 32 undef = cV (true && (((!r_162) || (decide (4096 < (x_179.length : Int)))) == false)) (.bool (decide (0 < i_14))) := hT.vals 19 rfl 32 rfl
        have hAp := hAp.add e223
        have e224 : a.tmps.getD 42 undef = cV ((true && (((!r_162) || (decide (4096 < (x_179.length : Int)))) == false)) && ((decide (0 < i_14)) == true)) (.pointer (some ((p_218.add ((i_14 - 1).toNat * 2)).add 0))) := hT.vals 29 rfl 42 rfl
        have hAp := hAp.add e224
        exact opk_gval hAp rfl rfl (g := (true && (((!r_162) || (decide (4096 < (x_179.length : Int)))) == false))) (e := (decide (0 < i_14))) rfl (fun hg => r_load1 Try.underlying9 rfl (cv_get (hAp.get rfl) hg) (Ext.cell hT.chg (hx226 ⟨⟨(b_not_f (b_or_f (g_f (g_up hg))).1), (of_decide_eq_false (b_or_f (g_f (g_up hg))).2)⟩, (of_decide_eq_true (g_t hg))⟩))) fun _ _ e => ⟨_, e, Chg.refl _ _, fun _ => Eq.refl _⟩
      · intro a w hT
        have hAp := hT.ag hA144 [] trivial (by kernel_rfl)
        have e228 : a.tmps.getD 32 undef = cV (true && (((!r_162) || (decide (4096 < (x_179.length : Int)))) == false)) (.bool (decide (0 < i_14))) := hT.vals 19 rfl 32 rfl
        have hAp := hAp.add e228
        have e229 : a.tmps.getD 37 undef = cV ((true && (((!r_162) || (decide (4096 < (x_179.length : Int)))) == false)) && ((decide (0 < i_14)) == true)) (.string (Bs x_206)) := hT.vals 24 rfl 37 rfl
        have hAp := hAp.add e229
        have e230 : a.tmps.getD 43 undef = cV ((true && (((!r_162) || (decide (4096 < (x_179.length : Int)))) == false)) && ((decide (0 < i_14)) == true)) (.string (Bs x_225)) := hT.vals 30 rfl 43 rfl
        have hAp := hAp.add e230
        exact opk_gval hAp rfl rfl (g := (true && (((!r_162) || (decide (4096 < (x_179.length : Int)))) == false))) (e := (decide (0 < i_14))) rfl (fun hg => r_sleq (cv_get (hAp.get rfl) hg) (cv_get (hAp.get rfl) hg)) fun _ _ e => ⟨_, e, Chg.refl _ _, fun _ => Eq.refl _⟩
      · intro a w hT
        have hAp := hT.ag hA144 [] trivial (by kernel_rfl)
        have e231 : a.tmps.getD 29 undef = .bool ((!r_162) || (decide (4096 < (x_179.length : Int)))) := hT.vals 16 rfl 29 rfl
        have hAp := hAp.add e231
        have e232 : a.tmps.getD 32 undef = cV (true && (((!r_162) || (decide (4096 < (x_179.length : Int)))) == false)) (.bool (decide (0 < i_14))) := hT.vals 19 rfl 32 rfl
        have hAp := hAp.add e232
        have e233 : a.tmps.getD 44 undef = cV ((true && (((!r_162) || (decide (4096 < (x_179.length : Int)))) == false)) && ((decide (0 < i_14)) == true)) (.bool ((Op.bytesLess x_206 x_225) || (decide (x_206 = x_225)))) := hT.vals 31 rfl 44 rfl
        have hAp := hAp.add e233
        exact opk_gval hAp rfl rfl (g := true) (e := ((!r_162) || (decide (4096 < (x_179.length : Int))))) rfl (fun hg => r_pick_and (g := ((true && (((!r_162) || (decide (4096 < (x_179.length : Int)))) == false)) && ((decide (0 < i_14)) == true))) (cv_get (hAp.get rfl) hg) (hAp.get rfl) (fun he => g_mkt hg he)) fun _ _ e => ⟨_, e, Chg.refl _ _, fun _ => Eq.refl _⟩
      · intro a w hT
        have hAp := hT.ag hA144 [] trivial (by kernel_rfl)
        have e234 : a.tmps.getD 29 undef = .bool ((!r_162) || (decide (4096 < (x_179.length : Int)))) := hT.vals 16 rfl 29 rfl
        have hAp := hAp.add e234
        have e235 : a.tmps.getD 45 undef = cV (true && (((!r_162) || (decide (4096 < (x_179.length : Int)))) == false)) (.bool ((decide (0 < i_14)) && ((Op.bytesLess x_206 x_225) || (decide (x_206 = x_225))))) := hT.vals 32 rfl 45 rfl
        have hAp := hAp.add e235
        exact opk_val hAp rfl (r_pick_or (g := (true && (((!r_162) || (decide (4096 < (x_179.length : Int)))) == false))) (hAp.get rfl) (hAp.get rfl) (fun he => g_mkf rfl he)) fun _ _ e => ⟨_, e, Chg.refl _ _, fun _ => Eq.refl _⟩
      · intro a236 w237 hE238 hag239 hv240
        have hA236 := hag239 [(0, Sl.v l_1), (3, .int .i64 i_14)] ⟨rfl, rfl, trivial⟩ (by kernel_rfl)
        have e242 : a236.tmps.getD 46 undef = .bool (((!r_162) || (decide (4096 < (x_179.length : Int)))) || ((decide (0 < i_14)) && ((Op.bytesLess x_206 x_225) || (decide (x_206 = x_225))))) := hv240 33 rfl 46 rfl
        have hA243 := hA236.add e242
        have hC244 : Chg [] w147 w237 := hE238
        refine PR_end (by kernel_rfl) ?_
        have hA245 := hA243.keep [(0, Sl.v l_1), (3, .int .i64 i_14), (46, .bool (((!r_162) || (decide (4096 < (x_179.length : Int)))) || ((decide (0 < i_14)) && ((Op.bytesLess x_206 x_225) || (decide (x_206 = x_225))))))] ⟨rfl, rfl, rfl, trivial⟩
        refine then_normal ?_
        refine wp_cond_split (hA245.get rfl) (fun hc => ?_) (fun hc => ?_)
        · have ht246 := ht227.1 ((b_or_t hc).imp (fun h => ((b_or_t h).imp (fun h => (b_not_t h)) (fun h => (of_decide_eq_true h)))) (fun h => ⟨(of_decide_eq_true (b_and_t h).1), ((b_or_t (b_and_t h).2).imp (fun h => h) (fun h => (of_decide_eq_true h)))⟩))
          clear hc
          refine wp_seq ?_
          refine wp_region_lit ?_
          refine sq (opk_val hA245 rfl (r_assign rfl) fun a248 hA248 _ => ?_)
          refine sq_end ?_
          have hA249 := hA248.keep [(2, .bool false)] ⟨rfl, trivial⟩
          refine then_normal ?_
          refine wp_ret ?_
          refine block_ret ?_
          refine then_ret ?_
          refine then_ret ?_
          refine block_ret ?_
          refine then_ret ?_
          have ht250 := ht246 w237    hC244
          exact res_all (vs := [.bool false]) rfl hA249 ⟨res_of_tmp hA249 rfl, trivial⟩ ht250
        · have ht247 := ht227.2 ⟨⟨(b_not_f (b_or_f (b_or_f hc).1).1), (of_decide_eq_false (b_or_f (b_or_f hc).1).2)⟩, ((b_and_f (b_or_f hc).2).imp (fun h => (of_decide_eq_false h)) (fun h => ⟨(b_or_f h).1, (of_decide_eq_false (b_or_f h).2)⟩))⟩
          clear hc
          refine wp_skip ?_
          refine block_normal ?_
          refine then_normal ?_
          refine wp_region_lit ?_
          refine sq (opk_val hA245 rfl (r_move (hA245.get rfl)) fun a251 hA251 _ => ?_)
          obtain ⟨hS253, ht254⟩ := ht247
          refine sq (opk_val hA251 rfl (r_addI (hA251.get rfl) rfl hS253) fun a252 hA252 _ => ?_)
          refine sq (opk_val hA252 rfl (r_assign (hA252.get rfl)) fun a255 hA255 _ => ?_)
          refine sq_end ?_
          have hA256 := hA255.keep [(0, Sl.v l_1), (3, .int .i64 (i_14 + 1))] ⟨rfl, rfl, trivial⟩
          have ht257 := ht254 w237    hC244
          have hA258 := hA256.keep [(0, Sl.v l_1), (3, .int .i64 (i_14 + 1))] ⟨rfl, rfl, trivial⟩
          exact then_normal ⟨(i_14 + 1, w237), ⟨hA258, rfl, ht257.1⟩, ht257.2⟩
    · have ht146 := ht138.2 (of_decide_eq_false hc)
      clear hc
      refine wp_exit ?_
      refine then_exit ?_
      refine then_exit ?_
      refine block_hit ?_
      have hA259 := hA144.keep [] trivial
      refine then_normal ?_
      refine wp_seq ?_
      refine wp_region_lit ?_
      refine sq (opk_val hA259 rfl (r_assign rfl) fun a260 hA260 _ => ?_)
      refine sq_end ?_
      have hA261 := hA260.keep [(2, .bool true)] ⟨rfl, trivial⟩
      refine then_normal ?_
      refine wp_ret ?_
      exact res_all (vs := [.bool true]) rfl hA261 ⟨res_of_tmp hA261 rfl, trivial⟩ ht146

end Go.Proofs.Ytpacegmmbabhjaa
