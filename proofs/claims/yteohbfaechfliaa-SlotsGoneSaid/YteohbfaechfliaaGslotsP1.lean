/-
  PRINTED BY PROGRAM: for each function its condition (vc), and that this suffices (ok).
-/
import Derived.Test.YteohbfaechfliaaGT
namespace Go.Proofs.Yteohbfaechfliaa
open Go.RowKit
set_option linter.unusedVariables false

/-- The condition of topiary/slots.Of. -/
def slots_Of.vc (o_1_Kind : Int) (o_1_Name : Str) (o_1_Text : Str) (o_1_Attrs : Sl) (o_1_Kids : Sl) (x_2_Kind : Int) (x_2_Name : Str) (x_2_Text : Str) (x_2_Attrs : Sl) (x_2_Kids : Sl) (l_3 : Sl) (R : Value → World → Prop) (w : World) : Prop :=
∀ (w13 : World) (B_4 : Nat) (B_12 : Nat), New w B_4 w13 → New w B_12 w13 → B_4 ≠ B_12 → Chg [] w w13 →
CallK Try.prog 36 #[.agg #[.int .i64 o_1_Kind, .string (Bs o_1_Name), .string (Bs o_1_Text), Sl.v o_1_Attrs, Sl.v o_1_Kids], .agg #[.int .i64 x_2_Kind, .string (Bs x_2_Name), .string (Bs x_2_Text), Sl.v x_2_Attrs, Sl.v x_2_Kids], Sl.v l_3] w13 [B_4, B_12] (fun v w32 => ∃ (r_30 : Bool), v = .bool r_30 ∧
((r_30 = false) →
R (.tuple #[Sl.v Sl.nil, .int .i64 1]) w32) ∧
((r_30 = true) →
∀ (w47 : World), Chg [] w32 w47 →
∃ V_55 : Sl → World → Prop, (∀ r_54 : Sl, ∀ w' w'' : World, Ext w' w'' → V_55 r_54 w' → V_55 r_54 w'') ∧
(∀ w' : World, Ext w47 w' → Calls Try.prog 37 #[.agg #[.int .i64 o_1_Kind, .string (Bs o_1_Name), .string (Bs o_1_Text), Sl.v o_1_Attrs, Sl.v o_1_Kids]] w' (Ret fun v w'' => Ext w' w'' ∧ ∃ r_54 : Sl, v = Sl.v r_54 ∧ V_55 r_54 w'')) ∧
∃ V_61 : Sl → World → Prop, (∀ r_60 : Sl, ∀ w' w'' : World, Ext w' w'' → V_61 r_60 w' → V_61 r_60 w'') ∧
(∀ w' : World, Ext w47 w' → Calls Try.prog 37 #[.agg #[.int .i64 x_2_Kind, .string (Bs x_2_Name), .string (Bs x_2_Text), Sl.v x_2_Attrs, Sl.v x_2_Kids]] w' (Ret fun v w'' => Ext w' w'' ∧ ∃ r_60 : Sl, v = Sl.v r_60 ∧ V_61 r_60 w'')) ∧
∀ (w70 : World) (r_54 : Sl) (r_60 : Sl), Ext w47 w70 → V_55 r_54 w70 → V_61 r_60 w70 → 
RunK Try.prog (Instr.makeMap 81 none) w70 [] (fun v w87 => ∃ (r_93 : Option Nat), v = .map r_93 ∧
RunK Try.prog (Instr.makeMap 81 none) w87 [] (fun v w95 => ∃ (r_101 : Option Nat), v = .map r_101 ∧
∀ (w111 : World) (B_102 : Nat), New w95 B_102 w111 → Chg [] w95 w111 →
∃ (J_125 : Int → World → Prop) (mu_126 : Int → World → Nat),
J_125 0 w111 ∧
(∀ (x_123 : Int) (w124 : World), J_125 x_123 w124 →
((x_123 < (l_3.n : Int)) →
((0 : Int) ≤ x_123 ∧ x_123 < (l_3.n : Int)) ∧ ∃ p_230 : Addr, l_3.a = some p_230 ∧
∃ (x_236_A : Int) (x_236_B : Int), (Cells w124 (p_230.add (x_123.toNat * 2)) [.int .i64 x_236_A, .int .i64 x_236_B]) ∧
∀ (w258 : World) (B_239 : Nat), New w124 B_239 w258 → Chg [] w124 w258 →
RunU Try.prog (Instr.mapUpdate 81 (.map r_93) (.int .i64 x_236_A) (.int .i64 x_236_B)) w258 [B_102, B_239] (fun w277 =>
∀ (w289 : World), Chg [] w277 w289 →
RunU Try.prog (Instr.mapUpdate 81 (.map r_101) (.int .i64 x_236_B) (.int .i64 x_236_A)) w289 [B_102, B_239] (fun w304 =>
(I64 (x_123 + 1)) ∧
J_125 (x_123 + 1) w304 ∧ mu_126 (x_123 + 1) w304 < mu_126 x_123 w124))) ∧
((¬ (x_123 < (l_3.n : Int))) →
RunK Try.prog (Instr.makeSlice 33 (.int .i64 (r_54.n : Int)) (.int .i64 (r_54.n : Int))) w124 [B_102] (fun v w324 => ∃ (r_330 : Sl), v = Sl.v r_330 ∧
∀ (_ : Box w324 B_102 81 [.map r_101]),
∃ (J_888 : Int → World → Prop) (mu_889 : Int → World → Nat),
J_888 0 w324 ∧
(∀ (x_886 : Int) (w887 : World), J_888 x_886 w887 →
((x_886 < (r_54.n : Int)) →
∃ (r_0_1440 : Int) (r_1_1441 : Bool), ((Instr.lookup 81 (.map r_93) (.int .i64 x_886) true).run Try.prog w887 = .ok (.tuple #[.int .i64 r_0_1440, .bool r_1_1441]) w887) ∧
((r_1_1441 = false) →
((0 : Int) ≤ x_886 ∧ x_886 < (r_330.n : Int)) ∧ ∃ p_1457 : Addr, r_330.a = some p_1457 ∧
∃ (B_1467 o_1468 : Nat) (T_1469 : TypeId) (cs_1470 : List Value), ((p_1457.add (x_886.toNat * 6)).add 0) = ⟨B_1467, o_1468, none⟩ ∧ Box w887 B_1467 T_1469 cs_1470 ∧ o_1468 + 1 ≤ cs_1470.length ∧ (∀ b ∈ [], b ≠ B_1467) ∧
(∀ w1463 : World, Chg [B_1467] w887 w1463 → Box w1463 B_1467 T_1469 (putAt cs_1470 o_1468 [.bool true]) →
(I64 (x_886 + 1)) ∧
J_888 (x_886 + 1) w1463 ∧ mu_889 (x_886 + 1) w1463 < mu_889 x_886 w887)) ∧
((r_1_1441 = true) →
∀ (w1485 : World), Chg [] w887 w1485 →
∃ p_1491 : Addr, (((0 : Int) ≤ x_886 ∧ x_886 < (r_54.n : Int)) ∧ r_54.a = some p_1491) ∧
∃ (x_1496_Kind : Int) (x_1496_Name : Str) (x_1496_Text : Str) (x_1496_Attrs : Sl) (x_1496_Kids : Sl), (Cells w1485 ((p_1491.add (x_886.toNat * 10)).add 5) [.int .i64 x_1496_Kind, .string (Bs x_1496_Name), .string (Bs x_1496_Text), Sl.v x_1496_Attrs, Sl.v x_1496_Kids]) ∧
∃ p_1501 : Addr, (((0 : Int) ≤ r_0_1440 ∧ r_0_1440 < (r_60.n : Int)) ∧ r_60.a = some p_1501) ∧
∃ (x_1506_Kind : Int) (x_1506_Name : Str) (x_1506_Text : Str) (x_1506_Attrs : Sl) (x_1506_Kids : Sl), (Cells w1485 ((p_1501.add (r_0_1440.toNat * 10)).add 5) [.int .i64 x_1506_Kind, .string (Bs x_1506_Name), .string (Bs x_1506_Text), Sl.v x_1506_Attrs, Sl.v x_1506_Kids]) ∧
∃ V_1512 : Bool → Bool → Sl → Sl → Int → Sl → World → Prop, (∀ r_1511_Gone : Bool, ∀ r_1511_Text : Bool, ∀ r_1511_Set : Sl, ∀ r_1511_Unset : Sl, ∀ r_1511_Up : Int, ∀ r_1511_Kids : Sl, ∀ w' w'' : World, Ext w' w'' → V_1512 r_1511_Gone r_1511_Text r_1511_Set r_1511_Unset r_1511_Up r_1511_Kids w' → V_1512 r_1511_Gone r_1511_Text r_1511_Set r_1511_Unset r_1511_Up r_1511_Kids w'') ∧
(∀ w' : World, Ext w1485 w' → Calls Try.prog 39 #[.agg #[.int .i64 x_1496_Kind, .string (Bs x_1496_Name), .string (Bs x_1496_Text), Sl.v x_1496_Attrs, Sl.v x_1496_Kids], .agg #[.int .i64 x_1506_Kind, .string (Bs x_1506_Name), .string (Bs x_1506_Text), Sl.v x_1506_Attrs, Sl.v x_1506_Kids]] w' (Ret fun v w'' => Ext w' w'' ∧ ∃ r_1511_Gone : Bool, ∃ r_1511_Text : Bool, ∃ r_1511_Set : Sl, ∃ r_1511_Unset : Sl, ∃ r_1511_Up : Int, ∃ r_1511_Kids : Sl, v = .agg #[.bool r_1511_Gone, .bool r_1511_Text, Sl.v r_1511_Set, Sl.v r_1511_Unset, .int .i64 r_1511_Up, Sl.v r_1511_Kids] ∧ V_1512 r_1511_Gone r_1511_Text r_1511_Set r_1511_Unset r_1511_Up r_1511_Kids w'')) ∧
∃ p_1518 : Addr, (((0 : Int) ≤ x_886 ∧ x_886 < (r_330.n : Int)) ∧ r_330.a = some p_1518) ∧
∀ (w1522 : World) (r_1511_Gone : Bool) (r_1511_Text : Bool) (r_1511_Set : Sl) (r_1511_Unset : Sl) (r_1511_Up : Int) (r_1511_Kids : Sl), Ext w1485 w1522 → V_1512 r_1511_Gone r_1511_Text r_1511_Set r_1511_Unset r_1511_Up r_1511_Kids w1522 → 
∃ (B_1538 o_1539 : Nat) (T_1540 : TypeId) (cs_1541 : List Value), (p_1518.add (x_886.toNat * 6)) = ⟨B_1538, o_1539, none⟩ ∧ Box w1522 B_1538 T_1540 cs_1541 ∧ o_1539 + 6 ≤ cs_1541.length ∧ (∀ b ∈ [], b ≠ B_1538) ∧
(∀ w1534 : World, Chg [B_1538] w1522 w1534 → Box w1534 B_1538 T_1540 (putAt cs_1541 o_1539 [.bool r_1511_Gone, .bool r_1511_Text, Sl.v r_1511_Set, Sl.v r_1511_Unset, .int .i64 r_1511_Up, Sl.v r_1511_Kids]) →
((0 : Int) ≤ x_886 ∧ x_886 < (r_330.n : Int)) ∧ ∃ p_1551 : Addr, r_330.a = some p_1551 ∧
∃ (B_1561 o_1562 : Nat) (T_1563 : TypeId) (cs_1564 : List Value), ((p_1551.add (x_886.toNat * 6)).add 4) = ⟨B_1561, o_1562, none⟩ ∧ Box w1534 B_1561 T_1563 cs_1564 ∧ o_1562 + 1 ≤ cs_1564.length ∧ (∀ b ∈ [], b ≠ B_1561) ∧
(∀ w1557 : World, Chg [B_1561] w1534 w1557 → Box w1557 B_1561 T_1563 (putAt cs_1564 o_1562 [.int .i64 (-1)]) →
((0 : Int) ≤ r_0_1440 ∧ r_0_1440 < (r_60.n : Int)) ∧ ∃ p_1574 : Addr, r_60.a = some p_1574 ∧
∃ (x_1581 : Int), (w1557.cell? ((p_1574.add (r_0_1440.toNat * 10)).add 0) = some (.int .i64 x_1581)) ∧
∃ J_1625 : World → Prop,
(((0 ≤ x_1581) →
CallK Try.prog 38 #[.int .i64 x_1581, .pointer (some (⟨B_102, 0, none⟩ : Addr))] w1557 [] (fun v w1636 => ∃ (r_1634 : Int), v = .int .i64 r_1634 ∧
((0 : Int) ≤ x_886 ∧ x_886 < (r_330.n : Int)) ∧ ∃ p_1642 : Addr, r_330.a = some p_1642 ∧
∃ (B_1652 o_1653 : Nat) (T_1654 : TypeId) (cs_1655 : List Value), ((p_1642.add (x_886.toNat * 6)).add 4) = ⟨B_1652, o_1653, none⟩ ∧ Box w1636 B_1652 T_1654 cs_1655 ∧ o_1653 + 1 ≤ cs_1655.length ∧ (∀ b ∈ [], b ≠ B_1652) ∧
(∀ w1648 : World, Chg [B_1652] w1636 w1648 → Box w1648 B_1652 T_1654 (putAt cs_1655 o_1653 [.int .i64 r_1634]) →
J_1625 w1648))) ∧
((¬ (0 ≤ x_1581)) →
J_1625 w1557)) ∧
(∀ (w1624 : World), J_1625 w1624 →
(I64 (r_0_1440 + 1)) ∧
∃ (J_1675 : Int → World → Prop) (mu_1676 : Int → World → Nat),
J_1675 (r_0_1440 + 1) w1624 ∧
(∀ (k_1673 : Int) (w1674 : World), J_1675 k_1673 w1674 →
((0 : Int) ≤ r_0_1440 ∧ r_0_1440 < (r_60.n : Int)) ∧ ∃ p_1824 : Addr, r_60.a = some p_1824 ∧
∃ (x_1831 : Int), (w1674.cell? ((p_1824.add (r_0_1440.toNat * 10)).add 1) = some (.int .i64 x_1831)) ∧
(I64 (r_0_1440 + x_1831)) ∧
((k_1673 < (r_0_1440 + x_1831)) →
∀ (w1841 : World), Chg [] w1674 w1841 →
∃ p_1845 : Addr, (((0 : Int) ≤ x_886 ∧ x_886 < (r_330.n : Int)) ∧ r_330.a = some p_1845) ∧
∃ (x_1848 : Sl), (w1841.cell? ((p_1845.add (x_886.toNat * 6)).add 5) = some (Sl.v x_1848)) ∧
∃ (r_1853 : Int), (∀ w' : World, Ext w1841 w' → Calls Try.prog 38 #[.int .i64 k_1673, .pointer (some (⟨B_102, 0, none⟩ : Addr))] w' (Ret fun v w'' => Ext w' w'' ∧ v = .int .i64 r_1853)) ∧
∀ (w1867 : World) (B_1857 : Nat), Ext w1841 w1867 → w1841.heap.size ≤ B_1857 → Box w1867 B_1857 3 [.int .i64 r_1853] → 
∀ (_ : Box w1867 B_1857 3 [.int .i64 r_1853]),
RunK Try.prog (Builtin.append_ #[22, 22] 22 #[Sl.v x_1848, Sl.v (Sl.mk (some ⟨B_1857, 0, none⟩) 1 1)]) w1867 [] (fun v w1888 => ∃ (r_1894 : Sl), v = Sl.v r_1894 ∧
∀ (w1899 : World), Chg [] w1888 w1899 →
∃ p_1909 : Addr, (((0 : Int) ≤ x_886 ∧ x_886 < (r_330.n : Int)) ∧ r_330.a = some p_1909) ∧
∀ (w1914 : World), Chg [] w1899 w1914 →
∃ (B_1927 o_1928 : Nat) (T_1929 : TypeId) (cs_1930 : List Value), ((p_1909.add (x_886.toNat * 6)).add 5) = ⟨B_1927, o_1928, none⟩ ∧ Box w1914 B_1927 T_1929 cs_1930 ∧ o_1928 + 1 ≤ cs_1930.length ∧ (∀ b ∈ [], b ≠ B_1927) ∧
(∀ w1922 : World, Chg [B_1927] w1914 w1922 → Box w1922 B_1927 T_1929 (putAt cs_1930 o_1928 [Sl.v r_1894]) →
((0 : Int) ≤ k_1673 ∧ k_1673 < (r_60.n : Int)) ∧ ∃ p_1941 : Addr, r_60.a = some p_1941 ∧
∃ (x_1948 : Int), (w1922.cell? ((p_1941.add (k_1673.toNat * 10)).add 1) = some (.int .i64 x_1948)) ∧
(I64 (k_1673 + x_1948)) ∧
J_1675 (k_1673 + x_1948) w1922 ∧ mu_1676 (k_1673 + x_1948) w1922 < mu_1676 k_1673 w1674))) ∧
((¬ (k_1673 < (r_0_1440 + x_1831))) →
(I64 (x_886 + 1)) ∧
J_888 (x_886 + 1) w1674 ∧ mu_889 (x_886 + 1) w1674 < mu_889 x_886 w887))))))) ∧
((¬ (x_886 < (r_54.n : Int))) →
R (.tuple #[Sl.v r_330, .int .i64 0]) w887)))))))))
set_option maxHeartbeats 1000000 in
set_option maxRecDepth 10000 in
theorem slots_Of.ok (o_1_Kind : Int) (o_1_Name : Str) (o_1_Text : Str) (o_1_Attrs : Sl) (o_1_Kids : Sl) (x_2_Kind : Int) (x_2_Name : Str) (x_2_Text : Str) (x_2_Attrs : Sl) (x_2_Kids : Sl) (l_3 : Sl) {R : Value → World → Prop} {w : World} (ht0 : slots_Of.vc o_1_Kind o_1_Name o_1_Text o_1_Attrs o_1_Kids x_2_Kind x_2_Name x_2_Text x_2_Attrs x_2_Kids l_3 R w) : Calls Try.prog 12 #[.agg #[.int .i64 o_1_Kind, .string (Bs o_1_Name), .string (Bs o_1_Text), Sl.v o_1_Attrs, Sl.v o_1_Kids], .agg #[.int .i64 x_2_Kind, .string (Bs x_2_Name), .string (Bs x_2_Text), Sl.v x_2_Attrs, Sl.v x_2_Kids], Sl.v l_3] w (Ret R) := by
  refine enter [.agg #[.int .i64 o_1_Kind, .string (Bs o_1_Name), .string (Bs o_1_Text), Sl.v o_1_Attrs, Sl.v o_1_Kids], .agg #[.int .i64 x_2_Kind, .string (Bs x_2_Name), .string (Bs x_2_Text), Sl.v x_2_Attrs, Sl.v x_2_Kids], Sl.v l_3] Try.func12 rfl Try.ntmps12 rfl ?_
  intro a0 hA0
  unfold slots_Of.vc at ht0
  refine wp_seq ?_
  refine wp_region_lit ?_
  refine sq (opk_new (fun B => .pointer (some ⟨B, 0, none⟩)) hA0 rfl (r_box (cs := [.int .i64 o_1_Kind, .string (Bs o_1_Name), .string (Bs o_1_Text), Sl.v o_1_Attrs, Sl.v o_1_Kids]) (hA0.get rfl) rfl) fun a6 w5 B_4 hE7 hN8 hB9 hA6 _ => ?_)
  have hN10 : New w B_4 w5 := hN8
  have hC11 : Chg [] w w5 := hE7
  refine sq (opk_new (fun B => .pointer (some ⟨B, 0, none⟩)) hA6 rfl (r_box (cs := [.int .i64 x_2_Kind, .string (Bs x_2_Name), .string (Bs x_2_Text), Sl.v x_2_Attrs, Sl.v x_2_Kids]) (hA6.get rfl) rfl) fun a14 w13 B_12 hE15 hN16 hB17 hA14 _ => ?_)
  have hne18 : B_4 ≠ B_12 := Nat.ne_of_lt (Nat.lt_of_lt_of_le hB9.lt hN16.ge)
  have hN19 := New.of hC11 hN16
  have hB20 := hB9.ext hE15
  have hC21 := hC11.more hE15
  have hN22 := hN10.up hE15.size
  refine sq (opk_val hA14 rfl (r_assign rfl) fun a23 hA23 _ => ?_)
  refine sq (opk_val hA23 rfl (r_assign rfl) fun a24 hA24 _ => ?_)
  refine sq_end ?_
  have hA25 := hA24.keep [(2, Sl.v l_3), (3, .pointer (some (⟨B_4, 0, none⟩ : Addr))), (4, .pointer (some (⟨B_12, 0, none⟩ : Addr)))] ⟨rfl, rfl, rfl, trivial⟩
  refine then_normal ?_
  refine wp_seq ?_
  refine wp_seq ?_
  refine wp_region_lit ?_
  refine sq (opk_val hA25 rfl (r_loadN (cs := [.int .i64 o_1_Kind, .string (Bs o_1_Name), .string (Bs o_1_Text), Sl.v o_1_Attrs, Sl.v o_1_Kids]) Try.underlying26 rfl ti_26 (hA25.get rfl) (hB20.part 0 _ rfl)) fun a26 hA26 _ => ?_)
  refine sq (opk_val hA26 rfl (r_loadN (cs := [.int .i64 x_2_Kind, .string (Bs x_2_Name), .string (Bs x_2_Text), Sl.v x_2_Attrs, Sl.v x_2_Kids]) Try.underlying26 rfl ti_26 (hA26.get rfl) (hB17.part 0 _ rfl)) fun a27 hA27 _ => ?_)
  refine sq (opk_val hA27 rfl (r_move (hA27.get rfl)) fun a28 hA28 _ => ?_)
  have ht29 := ht0 w13 B_4 B_12 hN22 hN19 hne18 hC21
  refine sq (opk_call hA28 rfl (r_call (args := #[.agg #[.int .i64 o_1_Kind, .string (Bs o_1_Name), .string (Bs o_1_Text), Sl.v o_1_Attrs, Sl.v o_1_Kids], .agg #[.int .i64 x_2_Kind, .string (Bs x_2_Name), .string (Bs x_2_Text), Sl.v x_2_Attrs, Sl.v x_2_Kids], Sl.v l_3]) Try.func36 (by decide) rfl (map_arr (ml_cons (hA28.get rfl) (ml_cons (hA28.get rfl) (ml_cons (hA28.get rfl) ml_nil)))) rfl) ht29 fun a31 v37 w32 hA31 _ hn34 hz35 hK36 => ?_)
  obtain ⟨r_30, rfl, ht33⟩ := hK36
  have hB38 := hB20.kept hn34 (.head _)
  have hB39 := hB17.kept hn34 (.tail _ (.head _))
  refine sq (opk_val hA31 rfl (r_not (hA31.get rfl)) fun a40 hA40 _ => ?_)
  refine sq_end ?_
  have hA41 := hA40.keep [(2, Sl.v l_3), (3, .pointer (some (⟨B_4, 0, none⟩ : Addr))), (4, .pointer (some (⟨B_12, 0, none⟩ : Addr))), (25, .bool (!r_30))] ⟨rfl, rfl, rfl, rfl, trivial⟩
  refine then_normal ?_
  refine wp_cond_split (hA41.get rfl) (fun hc => ?_) (fun hc => ?_)
  · have ht42 := ht33.1 (b_not_t hc)
    clear hc
    refine wp_seq ?_
    refine wp_region_lit ?_
    refine sq (opk_val hA41 rfl (r_assign rfl) fun a44 hA44 _ => ?_)
    refine sq (opk_val hA44 rfl (r_assign rfl) fun a45 hA45 _ => ?_)
    refine sq_end ?_
    have hA46 := hA45.keep [(6, Sl.v Sl.nil), (7, .int .i64 1)] ⟨rfl, rfl, trivial⟩
    refine then_normal ?_
    refine wp_ret ?_
    refine then_ret ?_
    exact res_all (vs := [Sl.v Sl.nil, .int .i64 1]) rfl hA46 ⟨res_of_tmp hA46 rfl, res_of_tmp hA46 rfl, trivial⟩ ht42
  · have ht43 := ht33.2 (b_not_f hc)
    clear hc
    refine wp_skip ?_
    refine then_normal ?_
    refine wp_seq ?_
    refine draw' (by kernel_rfl) fun w47 hE48 => ?_
    have hB49 := hB38.ext hE48
    have hB50 := hB39.ext hE48
    have hC51 : Chg [] w32 w47 := hE48
    have ht52 := ht43 w47    hC51
    obtain ⟨V_55, hst56, hc57, ht58⟩ := ht52
    obtain ⟨V_61, hst62, hc63, ht64⟩ := ht58
    refine par (D := [[], [0], [], [0, 1, 2], [0, 1, 2, 3], [0, 1, 2, 3, 4]]) (S := [0, 1, 2, 3, 4, 5]) (F := []) (V := VL [(0, fun v _ => v = .agg #[.int .i64 o_1_Kind, .string (Bs o_1_Name), .string (Bs o_1_Text), Sl.v o_1_Attrs, Sl.v o_1_Kids]), (1, fun v w' => ∃ r_54 : Sl, V_55 r_54 w' ∧ v = Sl.v r_54), (2, fun v _ => v = .agg #[.int .i64 x_2_Kind, .string (Bs x_2_Name), .string (Bs x_2_Text), Sl.v x_2_Attrs, Sl.v x_2_Kids]), (3, fun v w' => ∃ r_60 : Sl, V_61 r_60 w' ∧ v = Sl.v r_60), (4, fun v w' => ∃ r_54 : Sl, V_55 r_54 w' ∧ v = Sl.v r_54), (5, fun v w' => ∃ r_60 : Sl, V_61 r_60 w' ∧ v = Sl.v r_60)]) hA41 (by kernel_rfl) ⟨fun _ _ _ _ h => by first | exact h | (change _ = _ at h; change _ = _; exact h), fun _ _ _ hE ⟨r_54, h0_, e⟩ => ⟨r_54, (hst56 r_54 _ _ hE h0_), e⟩, fun _ _ _ _ h => by first | exact h | (change _ = _ at h; change _ = _; exact h), fun _ _ _ hE ⟨r_60, h0_, e⟩ => ⟨r_60, (hst62 r_60 _ _ hE h0_), e⟩, fun _ _ _ hE ⟨r_54, h0_, e⟩ => ⟨r_54, (hst56 r_54 _ _ hE h0_), e⟩, fun _ _ _ hE ⟨r_60, h0_, e⟩ => ⟨r_60, (hst62 r_60 _ _ hE h0_), e⟩, trivial⟩ ⟨?_, ?_, ?_, ?_, ?_, ?_, trivial⟩ ?_
    · intro a w hT
      have hAp := hT.ag hA41 [(3, .pointer (some (⟨B_4, 0, none⟩ : Addr)))] ⟨rfl, trivial⟩ (by kernel_rfl)
      exact opk_val hAp rfl (r_loadN (cs := [.int .i64 o_1_Kind, .string (Bs o_1_Name), .string (Bs o_1_Text), Sl.v o_1_Attrs, Sl.v o_1_Kids]) Try.underlying26 rfl ti_26 (hAp.get rfl) ((hB49.ext hT.chg).part 0 _ rfl)) fun _ _ e => ⟨_, e, Chg.refl _ _, fun _ => Eq.refl _⟩
    · intro a w hT
      have hAp := hT.ag hA41 [] trivial (by kernel_rfl)
      have e53 : a.tmps.getD 26 undef = .agg #[.int .i64 o_1_Kind, .string (Bs o_1_Name), .string (Bs o_1_Text), Sl.v o_1_Attrs, Sl.v o_1_Kids] := hT.vals 0 rfl 26 rfl
      have hAp := hAp.add e53
      exact opk_callX hAp rfl (r_call (args := #[.agg #[.int .i64 o_1_Kind, .string (Bs o_1_Name), .string (Bs o_1_Text), Sl.v o_1_Attrs, Sl.v o_1_Kids]]) Try.func37 (by decide) rfl (map_arr (ml_cons (hAp.get rfl) ml_nil)) rfl) (hc57 w hT.chg) fun _ _ _ _ e ⟨hE, r_54, he, hV⟩ => ⟨_, e, hE, fun _ => ⟨r_54, hV, he⟩⟩
    · intro a w hT
      have hAp := hT.ag hA41 [(4, .pointer (some (⟨B_12, 0, none⟩ : Addr)))] ⟨rfl, trivial⟩ (by kernel_rfl)
      exact opk_val hAp rfl (r_loadN (cs := [.int .i64 x_2_Kind, .string (Bs x_2_Name), .string (Bs x_2_Text), Sl.v x_2_Attrs, Sl.v x_2_Kids]) Try.underlying26 rfl ti_26 (hAp.get rfl) ((hB50.ext hT.chg).part 0 _ rfl)) fun _ _ e => ⟨_, e, Chg.refl _ _, fun _ => Eq.refl _⟩
    · intro a w hT
      have hAp := hT.ag hA41 [] trivial (by kernel_rfl)
      have e59 : a.tmps.getD 28 undef = .agg #[.int .i64 x_2_Kind, .string (Bs x_2_Name), .string (Bs x_2_Text), Sl.v x_2_Attrs, Sl.v x_2_Kids] := hT.vals 2 rfl 28 rfl
      have hAp := hAp.add e59
      exact opk_callX hAp rfl (r_call (args := #[.agg #[.int .i64 x_2_Kind, .string (Bs x_2_Name), .string (Bs x_2_Text), Sl.v x_2_Attrs, Sl.v x_2_Kids]]) Try.func37 (by decide) rfl (map_arr (ml_cons (hAp.get rfl) ml_nil)) rfl) (hc63 w hT.chg) fun _ _ _ _ e ⟨hE, r_60, he, hV⟩ => ⟨_, e, hE, fun _ => ⟨r_60, hV, he⟩⟩
    · intro a w hT
      have hAp := hT.ag hA41 [] trivial (by kernel_rfl)
      obtain ⟨r_54, hf66, e65⟩ := hT.vals 1 rfl 27 rfl
      have hAp := hAp.add e65
      exact opk_val hAp rfl (r_assign (hAp.get rfl)) fun _ _ e => ⟨_, e, Chg.refl _ _, fun _ => ⟨r_54, hf66, rfl⟩⟩
    · intro a w hT
      have hAp := hT.ag hA41 [] trivial (by kernel_rfl)
      obtain ⟨r_60, hf68, e67⟩ := hT.vals 3 rfl 29 rfl
      have hAp := hAp.add e67
      exact opk_val hAp rfl (r_assign (hAp.get rfl)) fun _ _ e => ⟨_, e, Chg.refl _ _, fun _ => ⟨r_60, hf68, rfl⟩⟩
    · intro a69 w70 hE71 hag72 hv73
      have hA69 := hag72 [(2, Sl.v l_3)] ⟨rfl, trivial⟩ (by kernel_rfl)
      obtain ⟨r_54, hf77, e75⟩ := hv73 4 rfl 8 rfl
      have hA76 := hA69.add e75
      obtain ⟨r_60, hf80, e78⟩ := hv73 5 rfl 9 rfl
      have hA79 := hA76.add e78
      have hB81 := hB49.ext hE71
      have hB82 := hB50.ext hE71
      have hC83 : Chg [] w47 w70 := hE71
      have ht84 := ht64 w70 r_54 r_60 hE71 hf77 hf80
      refine PR_end (by kernel_rfl) ?_
      have hA85 := hA79.keep [(2, Sl.v l_3), (8, Sl.v r_54), (9, Sl.v r_60)] ⟨rfl, rfl, rfl, trivial⟩
      refine then_normal ?_
      refine wp_seq ?_
      refine wp_region_lit ?_
      refine sq (opk_run hA85 rfl (fun _ _ hr => r_makeMap hr) ht84 fun a86 v92 w87 hA86 _ hn89 hz90 hK91 => ?_)
      obtain ⟨r_93, rfl, ht88⟩ := hK91
      refine sq (opk_run hA86 rfl (fun _ _ hr => r_makeMap hr) ht88 fun a94 v100 w95 hA94 _ hn97 hz98 hK99 => ?_)
      obtain ⟨r_101, rfl, ht96⟩ := hK99
      refine sq (opk_new (fun B => .pointer (some ⟨B, 0, none⟩)) hA94 rfl (r_alloc (cs := [.map none]) ti_81 rfl) fun a104 w103 B_102 hE105 hN106 hB107 hA104 _ => ?_)
      have hN108 : New w95 B_102 w103 := hN106
      have hC109 : Chg [] w95 w103 := hE105
      refine sq (opk_val hA104 rfl (r_assign (hA104.get rfl)) fun a110 hA110 _ => ?_)
      refine sq (opk_store hA110 hB107 (r_store (vs := [.map r_101]) (hA110.get rfl) (hA110.get rfl) rfl ti_81 hB107 rfl (ones_all [.map r_101] rfl)) fun a112 w111 hS113 hB114 hA112 => ?_)
      have hB115 : Box w111 B_102 81 [.map r_101] := hB114
      have hC116 := hC109.storeNew hN108 hS113
      have hN117 := hN108.up hS113.size
      refine sq_end ?_
      have hA118 := hA112.keep [(2, Sl.v l_3), (8, Sl.v r_54), (9, Sl.v r_60), (10, .map r_93), (11, .pointer (some (⟨B_102, 0, none⟩ : Addr)))] ⟨rfl, rfl, rfl, rfl, rfl, trivial⟩
      refine then_normal ?_
      refine wp_seq ?_
      refine wp_seq ?_
      refine wp_region_lit ?_
      refine sq (opk_val hA118 rfl (r_move (hA118.get rfl)) fun a119 hA119 _ => ?_)
      refine sq (opk_val hA119 rfl (r_len (hA119.get rfl) Try.underlying29) fun a120 hA120 _ => ?_)
      refine sq (opk_val hA120 rfl (r_move rfl) fun a121 hA121 _ => ?_)
      refine sq_end ?_
      have hA122 := hA121.keep [(8, Sl.v r_54), (9, Sl.v r_60), (10, .map r_93), (11, .pointer (some (⟨B_102, 0, none⟩ : Addr))), (32, Sl.v l_3), (33, .int .i64 (l_3.n : Int)), (34, .int .i64 0)] ⟨rfl, rfl, rfl, rfl, rfl, rfl, rfl, trivial⟩
      refine then_normal ?_
      refine wp_block ?_
      have ht219 := ht96 w111 B_102 hN117  hC116
      obtain ⟨J_125, mu_126, h0223, ht222⟩ := ht219
      refine wp_loop_st (σ := Int × World) (fun s a w => Ag 136 a [(8, Sl.v r_54), (9, Sl.v r_60), (10, .map r_93), (11, .pointer (some (⟨B_102, 0, none⟩ : Addr))), (32, Sl.v l_3), (33, .int .i64 (l_3.n : Int)), (34, .int .i64 s.1)] ∧ Box w B_102 81 [.map r_101] ∧ w = s.2 ∧ J_125 s.1 s.2) (fun s => mu_126 s.1 s.2) (0, w111) ⟨hA122.keep [(8, Sl.v r_54), (9, Sl.v r_60), (10, .map r_93), (11, .pointer (some (⟨B_102, 0, none⟩ : Addr))), (32, Sl.v l_3), (33, .int .i64 (l_3.n : Int)), (34, .int .i64 0)] ⟨rfl, rfl, rfl, rfl, rfl, rfl, rfl, trivial⟩, hB115, rfl, h0223⟩ ?_
      rintro ⟨x_123, w124⟩ a220 w_ ⟨hA220, hB221, hw_, hJ225⟩
      have hw_ : w124 = w_ := hw_.symm
      subst hw_
      have ht224 := ht222 x_123 _ hJ225
      refine wp_seq ?_
      refine wp_region_lit ?_
      refine sq (opk_val hA220 rfl (r_lss (hA220.get rfl) (hA220.get rfl)) fun a226 hA226 _ => ?_)
      refine sq_end ?_
      have hA227 := hA226.keep [(8, Sl.v r_54), (9, Sl.v r_60), (10, .map r_93), (11, .pointer (some (⟨B_102, 0, none⟩ : Addr))), (32, Sl.v l_3), (33, .int .i64 (l_3.n : Int)), (34, .int .i64 x_123), (35, .bool (decide (x_123 < (l_3.n : Int))))] ⟨rfl, rfl, rfl, rfl, rfl, rfl, rfl, rfl, trivial⟩
      refine then_normal ?_
      refine wp_seq ?_
      refine wp_cond_split (hA227.get rfl) (fun hc => ?_) (fun hc => ?_)
      · have ht228 := ht224.1 (of_decide_eq_true hc)
        clear hc
        refine wp_skip ?_
        refine then_normal ?_
        refine wp_seq ?_
        refine wp_block ?_
        refine wp_seq ?_
        refine wp_region_lit ?_
        obtain ⟨hb231, p_230, hp232, ht233⟩ := ht228
        refine sq (opk_val hA227 rfl (r_indexAddr (hA227.get rfl) (hA227.get rfl) Try.underlying29 ti_40 hb231 hp232) fun a234 hA234 _ => ?_)
        obtain ⟨x_236_A, x_236_B, hx237, ht238⟩ := ht233
        refine sq (opk_val hA234 rfl (r_loadN Try.underlying40 rfl ti_40 (hA234.get rfl) hx237) fun a235 hA235 _ => ?_)
        refine sq (opk_new (fun B => .pointer (some ⟨B, 0, none⟩)) hA235 rfl (r_alloc (cs := [.int .i64 0, .int .i64 0]) ti_40 rfl) fun a241 w240 B_239 hE242 hN243 hB244 hA241 _ => ?_)
        have hne245 : B_102 ≠ B_239 := Nat.ne_of_lt (Nat.lt_of_lt_of_le hB221.lt hN243.ge)
        have hN246 : New w124 B_239 w240 := hN243
        have hB247 := hB221.ext hE242
        have hC248 : Chg [] w124 w240 := hE242
        refine sq (opk_store hA241 hB244 (r_store (vs := [.int .i64 x_236_A, .int .i64 x_236_B]) (hA241.get rfl) (hA241.get rfl) rfl ti_40 hB244 rfl (ones_all [.int .i64 x_236_A, .int .i64 x_236_B] rfl)) fun a250 w249 hS251 hB252 hA250 => ?_)
        have hB253 : Box w249 B_239 40 [.int .i64 x_236_A, .int .i64 x_236_B] := hB252
        have hB254 := hB247.keep hS251 (by simpa using hne245)
        have hC255 := hC248.storeNew hN246 hS251
        have hN256 := hN246.up hS251.size
        refine sq_end ?_
        have hA257 := hA250.keep [(8, Sl.v r_54), (9, Sl.v r_60), (10, .map r_93), (11, .pointer (some (⟨B_102, 0, none⟩ : Addr))), (13, .pointer (some (⟨B_239, 0, none⟩ : Addr))), (32, Sl.v l_3), (33, .int .i64 (l_3.n : Int)), (34, .int .i64 x_123)] ⟨rfl, rfl, rfl, rfl, rfl, rfl, rfl, rfl, trivial⟩
        refine then_normal ?_
        refine draw' (by kernel_rfl) fun w258 hE259 => ?_
        have hB260 := hB254.ext hE259
        have hB261 := hB253.ext hE259
        have hC262 := hC255.more hE259
        have hN263 := hN256.up hE259.size
        have ht264 := ht238 w258 B_239 hN263  hC262
        refine startF (D := [[], [], [1], [], [], [4], [], [6], [], [8], [0, 1, 2, 6, 7], [0, 1, 2, 3, 4, 5, 6, 7, 8, 9, 10]]) (Fs := [0, 1, 2, 3, 4, 5, 6, 7, 8, 9]) (Ef := [(0, fun v _ => v = .map r_93), (1, fun v _ => v = .pointer (some (⟨B_239, 0, none⟩ : Addr))), (2, fun v _ => v = .int .i64 x_236_A), (3, fun v _ => v = .map r_101), (4, fun v _ => v = .pointer (some (⟨B_239, 1, none⟩ : Addr))), (5, fun v _ => v = .int .i64 x_236_B), (6, fun v _ => v = .pointer (some (⟨B_239, 1, none⟩ : Addr))), (7, fun v _ => v = .int .i64 x_236_B), (8, fun v _ => v = .pointer (some (⟨B_239, 0, none⟩ : Addr))), (9, fun v _ => v = .int .i64 x_236_A)]) (by kernel_rfl) ?_
        refine oneF (c := 10) hA257 rfl (by kernel_rfl) (constF ⟨fun _ _ _ h => by first | exact h | (change _ = _ at h; change _ = _; exact h), fun _ _ _ h => by first | exact h | (change _ = _ at h; change _ = _; exact h), fun _ _ _ h => by first | exact h | (change _ = _ at h; change _ = _; exact h), fun _ _ _ h => by first | exact h | (change _ = _ at h; change _ = _; exact h), fun _ _ _ h => by first | exact h | (change _ = _ at h; change _ = _; exact h), fun _ _ _ h => by first | exact h | (change _ = _ at h; change _ = _; exact h), fun _ _ _ h => by first | exact h | (change _ = _ at h; change _ = _; exact h), fun _ _ _ h => by first | exact h | (change _ = _ at h; change _ = _; exact h), fun _ _ _ h => by first | exact h | (change _ = _ at h; change _ = _; exact h), fun _ _ _ h => by first | exact h | (change _ = _ at h; change _ = _; exact h), trivial⟩) ⟨?_, ?_, ?_, ?_, ?_, ?_, ?_, ?_, ?_, ?_, trivial⟩ ?_
        · intro a hT
          have hAp := hT.ag hA257 [(10, .map r_93)] ⟨rfl, trivial⟩ (by kernel_rfl)
          exact opk_val hAp rfl (r_move (hAp.get rfl)) fun _ _ e => ⟨_, e, rfl, fun _ => Eq.refl _⟩
        · intro a hT
          have hAp := hT.ag hA257 [(13, .pointer (some (⟨B_239, 0, none⟩ : Addr)))] ⟨rfl, trivial⟩ (by kernel_rfl)
          exact opk_val hAp rfl (r_fieldAddr (hAp.get rfl) Try.underlying40 rfl ti_3 (by decide)) fun _ _ e => ⟨_, e, rfl, fun _ => Eq.refl _⟩
        · intro a hT
          have hAp := hT.ag hA257 [] trivial (by kernel_rfl)
          have e265 : a.tmps.getD 39 undef = .pointer (some (⟨B_239, 0, none⟩ : Addr)) := hT.vals 1 rfl 39 rfl
          have hAp := hAp.add e265
          exact opk_val hAp rfl (r_load1 Try.underlying3 rfl (hAp.get rfl) ((hB261.ext hT.chg).cell 0 _ rfl)) fun _ _ e => ⟨_, e, rfl, fun _ => Eq.refl _⟩
        · intro a hT
          have hAp := hT.ag hA257 [(11, .pointer (some (⟨B_102, 0, none⟩ : Addr)))] ⟨rfl, trivial⟩ (by kernel_rfl)
          exact opk_val hAp rfl (r_load1 Try.underlying81 rfl (hAp.get rfl) ((hB260.ext hT.chg).cell 0 _ rfl)) fun _ _ e => ⟨_, e, rfl, fun _ => Eq.refl _⟩
        · intro a hT
          have hAp := hT.ag hA257 [(13, .pointer (some (⟨B_239, 0, none⟩ : Addr)))] ⟨rfl, trivial⟩ (by kernel_rfl)
          exact opk_val hAp rfl (r_fieldAddr (hAp.get rfl) Try.underlying40 rfl ti_3 (by decide)) fun _ _ e => ⟨_, e, rfl, fun _ => Eq.refl _⟩
        · intro a hT
          have hAp := hT.ag hA257 [] trivial (by kernel_rfl)
          have e266 : a.tmps.getD 42 undef = .pointer (some (⟨B_239, 1, none⟩ : Addr)) := hT.vals 4 rfl 42 rfl
          have hAp := hAp.add e266
          exact opk_val hAp rfl (r_load1 Try.underlying3 rfl (hAp.get rfl) ((hB261.ext hT.chg).cell 1 _ rfl)) fun _ _ e => ⟨_, e, rfl, fun _ => Eq.refl _⟩
        · intro a hT
          have hAp := hT.ag hA257 [(13, .pointer (some (⟨B_239, 0, none⟩ : Addr)))] ⟨rfl, trivial⟩ (by kernel_rfl)
          exact opk_val hAp rfl (r_fieldAddr (hAp.get rfl) Try.underlying40 rfl ti_3 (by decide)) fun _ _ e => ⟨_, e, rfl, fun _ => Eq.refl _⟩
        · intro a hT
          have hAp := hT.ag hA257 [] trivial (by kernel_rfl)
          have e267 : a.tmps.getD 44 undef = .pointer (some (⟨B_239, 1, none⟩ : Addr)) := hT.vals 6 rfl 44 rfl
          have hAp := hAp.add e267
          exact opk_val hAp rfl (r_load1 Try.underlying3 rfl (hAp.get rfl) ((hB261.ext hT.chg).cell 1 _ rfl)) fun _ _ e => ⟨_, e, rfl, fun _ => Eq.refl _⟩
        · intro a hT
          have hAp := hT.ag hA257 [(13, .pointer (some (⟨B_239, 0, none⟩ : Addr)))] ⟨rfl, trivial⟩ (by kernel_rfl)
          exact opk_val hAp rfl (r_fieldAddr (hAp.get rfl) Try.underlying40 rfl ti_3 (by decide)) fun _ _ e => ⟨_, e, rfl, fun _ => Eq.refl _⟩
        · intro a hT
          have hAp := hT.ag hA257 [] trivial (by kernel_rfl)
          have e268 : a.tmps.getD 46 undef = .pointer (some (⟨B_239, 0, none⟩ : Addr)) := hT.vals 8 rfl 46 rfl
          have hAp := hAp.add e268
          exact opk_val hAp rfl (r_load1 Try.underlying3 rfl (hAp.get rfl) ((hB261.ext hT.chg).cell 0 _ rfl)) fun _ _ e => ⟨_, e, rfl, fun _ => Eq.refl _⟩
        · intro a269 hT
          have hA269 := hT.ag hA257 [(8, Sl.v r_54), (9, Sl.v r_60), (10, .map r_93), (11, .pointer (some (⟨B_102, 0, none⟩ : Addr))), (13, .pointer (some (⟨B_239, 0, none⟩ : Addr))), (32, Sl.v l_3), (33, .int .i64 (l_3.n : Int)), (34, .int .i64 x_123)] ⟨rfl, rfl, rfl, rfl, rfl, rfl, rfl, rfl, trivial⟩ (by kernel_rfl)
          have e270 : a269.tmps.getD 38 undef = .map r_93 := hT.vals 0 rfl 38 rfl
          have hA271 := hA269.add e270
          have e272 : a269.tmps.getD 40 undef = .int .i64 x_236_A := hT.vals 2 rfl 40 rfl
          have hA273 := hA271.add e272
          have e274 : a269.tmps.getD 45 undef = .int .i64 x_236_B := hT.vals 7 rfl 45 rfl
          have hA275 := hA273.add e274
          refine opk_runUF hA275 (fun _ hr => r_mapUpdate (hA275.get rfl) (hA275.get rfl) (hA275.get rfl) hr) ht264 fun w277 hA276 hn279 hz280 ht278 => ⟨undef, Eq.refl _, ?_⟩
          have hB281 := hB260.kept hn279 (.head _)
          have hB282 := hB261.kept hn279 (.tail _ (.head _))
          refine PRF_drop (X := [0, 1, 2, 6, 7]) (Fs' := [3, 4, 5, 8, 9]) hA276 (by kernel_rfl) fun a283 hag284 hv285 => ?_
          have hA283 := hag284 [(8, Sl.v r_54), (9, Sl.v r_60), (10, .map r_93), (11, .pointer (some (⟨B_102, 0, none⟩ : Addr))), (13, .pointer (some (⟨B_239, 0, none⟩ : Addr))), (32, Sl.v l_3), (33, .int .i64 (l_3.n : Int)), (34, .int .i64 x_123)] ⟨rfl, rfl, rfl, rfl, rfl, rfl, rfl, rfl, trivial⟩ (by kernel_rfl)
          refine joinF hA283 (by kernel_rfl) ⟨fun _ _ _ _ h => by first | exact h | (change _ = _ at h; change _ = _; exact h), fun _ _ _ _ h => by first | exact h | (change _ = _ at h; change _ = _; exact h), fun _ _ _ _ h => by first | exact h | (change _ = _ at h; change _ = _; exact h), fun _ _ _ _ h => by first | exact h | (change _ = _ at h; change _ = _; exact h), fun _ _ _ _ h => by first | exact h | (change _ = _ at h; change _ = _; exact h), trivial⟩ ⟨?_, ?_, ?_, ?_, ?_, trivial⟩ ?_
          · intro a w hT
            have hAp := hT.ag hA283 [(11, .pointer (some (⟨B_102, 0, none⟩ : Addr)))] ⟨rfl, trivial⟩ (by kernel_rfl)
            exact opk_val hAp rfl (r_load1 Try.underlying81 rfl (hAp.get rfl) ((hB281.ext hT.chg).cell 0 _ rfl)) fun _ _ e => ⟨_, e, Chg.refl _ _, fun _ => Eq.refl _⟩
          · intro a w hT
            have hAp := hT.ag hA283 [(13, .pointer (some (⟨B_239, 0, none⟩ : Addr)))] ⟨rfl, trivial⟩ (by kernel_rfl)
            exact opk_val hAp rfl (r_fieldAddr (hAp.get rfl) Try.underlying40 rfl ti_3 (by decide)) fun _ _ e => ⟨_, e, Chg.refl _ _, fun _ => Eq.refl _⟩
          · intro a w hT
            have hAp := hT.ag hA283 [] trivial (by kernel_rfl)
            have e286 : a.tmps.getD 42 undef = .pointer (some (⟨B_239, 1, none⟩ : Addr)) := hT.vals 4 rfl 42 rfl
            have hAp := hAp.add e286
            exact opk_val hAp rfl (r_load1 Try.underlying3 rfl (hAp.get rfl) ((hB282.ext hT.chg).cell 1 _ rfl)) fun _ _ e => ⟨_, e, Chg.refl _ _, fun _ => Eq.refl _⟩
          · intro a w hT
            have hAp := hT.ag hA283 [(13, .pointer (some (⟨B_239, 0, none⟩ : Addr)))] ⟨rfl, trivial⟩ (by kernel_rfl)
            exact opk_val hAp rfl (r_fieldAddr (hAp.get rfl) Try.underlying40 rfl ti_3 (by decide)) fun _ _ e => ⟨_, e, Chg.refl _ _, fun _ => Eq.refl _⟩
          · intro a w hT
            have hAp := hT.ag hA283 [] trivial (by kernel_rfl)
            have e287 : a.tmps.getD 46 undef = .pointer (some (⟨B_239, 0, none⟩ : Addr)) := hT.vals 8 rfl 46 rfl
            have hAp := hAp.add e287
            exact opk_val hAp rfl (r_load1 Try.underlying3 rfl (hAp.get rfl) ((hB282.ext hT.chg).cell 0 _ rfl)) fun _ _ e => ⟨_, e, Chg.refl _ _, fun _ => Eq.refl _⟩
          · intro a288 w289 hE290 hag291 hv292
            have hA288 := hag291 [(8, Sl.v r_54), (9, Sl.v r_60), (10, .map r_93), (11, .pointer (some (⟨B_102, 0, none⟩ : Addr))), (32, Sl.v l_3), (33, .int .i64 (l_3.n : Int)), (34, .int .i64 x_123)] ⟨rfl, rfl, rfl, rfl, rfl, rfl, rfl, trivial⟩ (by kernel_rfl)
            have e293 : a288.tmps.getD 41 undef = .map r_101 := hv292 3 rfl 41 rfl
            have hA294 := hA288.add e293
            have e295 : a288.tmps.getD 43 undef = .int .i64 x_236_B := hv292 5 rfl 43 rfl
            have hA296 := hA294.add e295
            have e297 : a288.tmps.getD 47 undef = .int .i64 x_236_A := hv292 9 rfl 47 rfl
            have hA298 := hA296.add e297
            have hB299 := hB281.ext hE290
            have hB300 := hB282.ext hE290
            have hC301 : Chg [] w277 w289 := hE290
            have ht302 := ht278 w289    hC301
            refine one (D := [[], [], [1], [], [], [4], [], [6], [], [8], [0, 1, 2, 6, 7], [0, 1, 2, 3, 4, 5, 6, 7, 8, 9, 10]]) (i := 11) rfl (by kernel_rfl) (opk_runU hA298 (fun _ hr => r_mapUpdate (hA298.get rfl) (hA298.get rfl) (hA298.get rfl) hr) ht302 fun a303 w304 hA303 hn306 hz307 ht305 => ?_)
            have hB308 := hB299.kept hn306 (.head _)
            have hB309 := hB300.kept hn306 (.tail _ (.head _))
            refine PR_end (by kernel_rfl) ?_
            have hA310 := hA303.keep [(8, Sl.v r_54), (9, Sl.v r_60), (10, .map r_93), (11, .pointer (some (⟨B_102, 0, none⟩ : Addr))), (32, Sl.v l_3), (33, .int .i64 (l_3.n : Int)), (34, .int .i64 x_123)] ⟨rfl, rfl, rfl, rfl, rfl, rfl, rfl, trivial⟩
            refine block_normal ?_
            refine then_normal ?_
            refine wp_region_lit ?_
            obtain ⟨hS312, ht313⟩ := ht305
            refine sq (opk_val hA310 rfl (r_addI (hA310.get rfl) rfl hS312) fun a311 hA311 _ => ?_)
            refine sq (opk_val hA311 rfl (r_move (hA311.get rfl)) fun a314 hA314 _ => ?_)
            refine sq_end ?_
            have hA315 := hA314.keep [(8, Sl.v r_54), (9, Sl.v r_60), (10, .map r_93), (11, .pointer (some (⟨B_102, 0, none⟩ : Addr))), (32, Sl.v l_3), (33, .int .i64 (l_3.n : Int)), (34, .int .i64 (x_123 + 1))] ⟨rfl, rfl, rfl, rfl, rfl, rfl, rfl, trivial⟩
            have hA316 := hA315.keep [(8, Sl.v r_54), (9, Sl.v r_60), (10, .map r_93), (11, .pointer (some (⟨B_102, 0, none⟩ : Addr))), (32, Sl.v l_3), (33, .int .i64 (l_3.n : Int)), (34, .int .i64 (x_123 + 1))] ⟨rfl, rfl, rfl, rfl, rfl, rfl, rfl, trivial⟩
            exact then_normal ⟨(x_123 + 1, w304), ⟨hA316, hB308, rfl, ht313.1⟩, ht313.2⟩
      · have ht229 := ht224.2 (of_decide_eq_false hc)
        clear hc
        refine wp_exit ?_
        refine then_exit ?_
        refine then_exit ?_
        refine block_hit ?_
        have hA317 := hA227.keep [(8, Sl.v r_54), (9, Sl.v r_60), (10, .map r_93), (11, .pointer (some (⟨B_102, 0, none⟩ : Addr)))] ⟨rfl, rfl, rfl, rfl, trivial⟩
        refine then_normal ?_
        refine wp_seq ?_
        refine wp_region_lit ?_
        refine sq (opk_val hA317 rfl (r_makeFunc (f := #[]) (c := #[.pointer (some (⟨B_102, 0, none⟩ : Addr))]) (map_arr ml_nil) (map_arr (ml_cons (hA317.get rfl) ml_nil))) fun a318 hA318 _ => ?_)
        refine sq (opk_val hA318 rfl (r_assign (hA318.get rfl)) fun a319 hA319 _ => ?_)
        refine sq_end ?_
        have hA320 := hA319.keep [(8, Sl.v r_54), (9, Sl.v r_60), (10, .map r_93), (14, .func (.func 38) #[] #[.pointer (some (⟨B_102, 0, none⟩ : Addr))])] ⟨rfl, rfl, rfl, rfl, trivial⟩
        refine then_normal ?_
        refine wp_seq ?_
        refine wp_region_lit ?_
        refine sq (opk_val hA320 rfl (r_move (hA320.get rfl)) fun a321 hA321 _ => ?_)
        refine sq (opk_val hA321 rfl (r_len (hA321.get rfl) Try.underlying79) fun a322 hA322 _ => ?_)
        refine sq (opk_run hA322 rfl (fun _ _ hr => r_makeSlice (hA322.get rfl) (hA322.get rfl) hr) ht229 fun a323 v329 w324 hA323 _ hn326 hz327 hK328 => ?_)
        obtain ⟨r_330, rfl, ht325⟩ := hK328
        have hB331 := hB221.kept hn326 (.head _)
        refine sq (opk_val hA323 rfl (r_assign (hA323.get rfl)) fun a332 hA332 _ => ?_)
        refine sq_end ?_
        have hA333 := hA332.keep [(8, Sl.v r_54), (9, Sl.v r_60), (10, .map r_93), (14, .func (.func 38) #[] #[.pointer (some (⟨B_102, 0, none⟩ : Addr))]), (15, Sl.v r_330)] ⟨rfl, rfl, rfl, rfl, rfl, trivial⟩
        refine then_normal ?_
        refine wp_seq ?_
        refine wp_seq ?_
        refine wp_region_lit ?_
        refine sq (opk_val hA333 rfl (r_move (hA333.get rfl)) fun a334 hA334 _ => ?_)
        refine sq (opk_val hA334 rfl (r_len (hA334.get rfl) Try.underlying79) fun a335 hA335 _ => ?_)
        refine sq (opk_val hA335 rfl (r_move rfl) fun a336 hA336 _ => ?_)
        refine sq_end ?_
        have hA337 := hA336.keep [(8, Sl.v r_54), (9, Sl.v r_60), (10, .map r_93), (14, .func (.func 38) #[] #[.pointer (some (⟨B_102, 0, none⟩ : Addr))]), (15, Sl.v r_330), (54, .int .i64 (r_54.n : Int)), (55, .int .i64 0)] ⟨rfl, rfl, rfl, rfl, rfl, rfl, rfl, trivial⟩
        refine then_normal ?_
        refine wp_block ?_
        have ht885 := ht325 hB331
        obtain ⟨J_888, mu_889, h01427, ht1426⟩ := ht885
        refine wp_loop_st (σ := Int × World) (fun s a w => Ag 136 a [(8, Sl.v r_54), (9, Sl.v r_60), (10, .map r_93), (14, .func (.func 38) #[] #[.pointer (some (⟨B_102, 0, none⟩ : Addr))]), (15, Sl.v r_330), (54, .int .i64 (r_54.n : Int)), (55, .int .i64 s.1)] ∧ w = s.2 ∧ J_888 s.1 s.2) (fun s => mu_889 s.1 s.2) (0, w324) ⟨hA337.keep [(8, Sl.v r_54), (9, Sl.v r_60), (10, .map r_93), (14, .func (.func 38) #[] #[.pointer (some (⟨B_102, 0, none⟩ : Addr))]), (15, Sl.v r_330), (54, .int .i64 (r_54.n : Int)), (55, .int .i64 0)] ⟨rfl, rfl, rfl, rfl, rfl, rfl, rfl, trivial⟩, rfl, h01427⟩ ?_
        rintro ⟨x_886, w887⟩ a1425 w_ ⟨hA1425, hw_, hJ1429⟩
        have hw_ : w887 = w_ := hw_.symm
        subst hw_
        have ht1428 := ht1426 x_886 _ hJ1429
        refine wp_seq ?_
        refine wp_region_lit ?_
        refine sq (opk_val hA1425 rfl (r_lss (hA1425.get rfl) (hA1425.get rfl)) fun a1430 hA1430 _ => ?_)
        refine sq_end ?_
        have hA1431 := hA1430.keep [(8, Sl.v r_54), (9, Sl.v r_60), (10, .map r_93), (14, .func (.func 38) #[] #[.pointer (some (⟨B_102, 0, none⟩ : Addr))]), (15, Sl.v r_330), (54, .int .i64 (r_54.n : Int)), (55, .int .i64 x_886), (56, .bool (decide (x_886 < (r_54.n : Int))))] ⟨rfl, rfl, rfl, rfl, rfl, rfl, rfl, rfl, trivial⟩
        refine then_normal ?_
        refine wp_seq ?_
        refine wp_cond_split (hA1431.get rfl) (fun hc => ?_) (fun hc => ?_)
        · have ht1432 := ht1428.1 (of_decide_eq_true hc)
          clear hc
          refine wp_skip ?_
          refine then_normal ?_
          refine wp_seq ?_
          refine wp_block ?_
          refine wp_seq ?_
          refine wp_region_lit ?_
          refine sq (opk_val hA1431 rfl (r_move (hA1431.get rfl)) fun a1434 hA1434 _ => ?_)
          refine sq (opk_val hA1434 rfl (r_assign (hA1434.get rfl)) fun a1435 hA1435 _ => ?_)
          refine sq_end ?_
          have hA1436 := hA1435.keep [(8, Sl.v r_54), (9, Sl.v r_60), (10, .map r_93), (14, .func (.func 38) #[] #[.pointer (some (⟨B_102, 0, none⟩ : Addr))]), (15, Sl.v r_330), (16, .int .i64 x_886), (54, .int .i64 (r_54.n : Int)), (55, .int .i64 x_886)] ⟨rfl, rfl, rfl, rfl, rfl, rfl, rfl, rfl, trivial⟩
          refine then_normal ?_
          refine wp_seq ?_
          refine wp_region_lit ?_
          refine sq (opk_val hA1436 rfl (r_move (hA1436.get rfl)) fun a1437 hA1437 _ => ?_)
          refine sq (opk_val hA1437 rfl (r_move (hA1437.get rfl)) fun a1438 hA1438 _ => ?_)
          obtain ⟨r_0_1440, r_1_1441, hx1442, ht1443⟩ := ht1432
          refine sq (opk_val hA1438 rfl (r_lookup (hA1438.get rfl) (hA1438.get rfl) hx1442) fun a1439 hA1439 _ => ?_)
          refine sq (opk_val hA1439 rfl (r_move (hA1439.get rfl)) fun a1444 hA1444 _ => ?_)
          refine sq (opk_val hA1444 rfl (r_extract (hA1444.get rfl) rfl) fun a1445 hA1445 _ => ?_)
          refine sq (opk_val hA1445 rfl (r_extract (hA1445.get rfl) rfl) fun a1446 hA1446 _ => ?_)
          refine sq (opk_val hA1446 rfl (r_assign (hA1446.get rfl)) fun a1447 hA1447 _ => ?_)
          refine sq (opk_val hA1447 rfl (r_assign (hA1447.get rfl)) fun a1448 hA1448 _ => ?_)
          refine sq_end ?_
          have hA1449 := hA1448.keep [(8, Sl.v r_54), (9, Sl.v r_60), (10, .map r_93), (14, .func (.func 38) #[] #[.pointer (some (⟨B_102, 0, none⟩ : Addr))]), (15, Sl.v r_330), (16, .int .i64 x_886), (17, .int .i64 r_0_1440), (18, .bool r_1_1441), (54, .int .i64 (r_54.n : Int)), (55, .int .i64 x_886)] ⟨rfl, rfl, rfl, rfl, rfl, rfl, rfl, rfl, rfl, rfl, trivial⟩
          refine then_normal ?_
          refine wp_seq ?_
          refine wp_seq ?_
          refine wp_region_lit ?_
          refine sq (opk_val hA1449 rfl (r_move (hA1449.get rfl)) fun a1450 hA1450 _ => ?_)
          refine sq (opk_val hA1450 rfl (r_not (hA1450.get rfl)) fun a1451 hA1451 _ => ?_)
          refine sq_end ?_
          have hA1452 := hA1451.keep [(8, Sl.v r_54), (9, Sl.v r_60), (10, .map r_93), (14, .func (.func 38) #[] #[.pointer (some (⟨B_102, 0, none⟩ : Addr))]), (15, Sl.v r_330), (16, .int .i64 x_886), (17, .int .i64 r_0_1440), (54, .int .i64 (r_54.n : Int)), (55, .int .i64 x_886), (65, .bool (!r_1_1441))] ⟨rfl, rfl, rfl, rfl, rfl, rfl, rfl, rfl, rfl, rfl, trivial⟩
          refine then_normal ?_
          refine wp_cond_split (hA1452.get rfl) (fun hc => ?_) (fun hc => ?_)
          · have ht1453 := ht1443.1 (b_not_t hc)
            clear hc
            refine wp_seq ?_
            refine wp_region_lit ?_
            refine sq (opk_val hA1452 rfl (r_move (hA1452.get rfl)) fun a1455 hA1455 _ => ?_)
            refine sq (opk_val hA1455 rfl (r_move (hA1455.get rfl)) fun a1456 hA1456 _ => ?_)
            obtain ⟨hb1458, p_1457, hp1459, ht1460⟩ := ht1453
            refine sq (opk_val hA1456 rfl (r_indexAddr (hA1456.get rfl) (hA1456.get rfl) Try.underlying33 ti_43 hb1458 hp1459) fun a1461 hA1461 _ => ?_)
            refine sq (opk_val hA1461 rfl (r_fieldAddr (hA1461.get rfl) Try.underlying43 rfl ti_4 (by decide)) fun a1462 hA1462 _ => ?_)
            obtain ⟨B_1467, o_1468, T_1469, cs_1470, he1471, hb1472, hl1473, hx1474, ht1475⟩ := ht1460
            refine sq (opk_store hA1462 hb1472 (r_store (vs := [.bool true]) (((hA1462.get rfl)).trans (congrArg (fun a => Value.pointer (some a)) he1471)) rfl rfl ti_4 hb1472 (Nat.ble_eq_true_of_le hl1473) (ones_all [.bool true] rfl)) fun a1464 w1463 hS1465 hB1466 hA1464 => ?_)
            have ht1476 := ht1475 w1463 hS1465 hB1466
            refine sq_end ?_
            have hA1477 := hA1464.keep [(8, Sl.v r_54), (9, Sl.v r_60), (10, .map r_93), (14, .func (.func 38) #[] #[.pointer (some (⟨B_102, 0, none⟩ : Addr))]), (15, Sl.v r_330), (54, .int .i64 (r_54.n : Int)), (55, .int .i64 x_886)] ⟨rfl, rfl, rfl, rfl, rfl, rfl, rfl, trivial⟩
            refine then_normal ?_
            refine wp_exit ?_
            refine then_exit ?_
            refine block_hit ?_
            have hA1478 := hA1477.keep [(8, Sl.v r_54), (9, Sl.v r_60), (10, .map r_93), (14, .func (.func 38) #[] #[.pointer (some (⟨B_102, 0, none⟩ : Addr))]), (15, Sl.v r_330), (54, .int .i64 (r_54.n : Int)), (55, .int .i64 x_886)] ⟨rfl, rfl, rfl, rfl, rfl, rfl, rfl, trivial⟩
            refine then_normal ?_
            refine wp_region_lit ?_
            obtain ⟨hS1480, ht1481⟩ := ht1476
            refine sq (opk_val hA1478 rfl (r_addI (hA1478.get rfl) rfl hS1480) fun a1479 hA1479 _ => ?_)
            refine sq (opk_val hA1479 rfl (r_move (hA1479.get rfl)) fun a1482 hA1482 _ => ?_)
            refine sq_end ?_
            have hA1483 := hA1482.keep [(8, Sl.v r_54), (9, Sl.v r_60), (10, .map r_93), (14, .func (.func 38) #[] #[.pointer (some (⟨B_102, 0, none⟩ : Addr))]), (15, Sl.v r_330), (54, .int .i64 (r_54.n : Int)), (55, .int .i64 (x_886 + 1))] ⟨rfl, rfl, rfl, rfl, rfl, rfl, rfl, trivial⟩
            have hA1484 := hA1483.keep [(8, Sl.v r_54), (9, Sl.v r_60), (10, .map r_93), (14, .func (.func 38) #[] #[.pointer (some (⟨B_102, 0, none⟩ : Addr))]), (15, Sl.v r_330), (54, .int .i64 (r_54.n : Int)), (55, .int .i64 (x_886 + 1))] ⟨rfl, rfl, rfl, rfl, rfl, rfl, rfl, trivial⟩
            exact then_normal ⟨(x_886 + 1, w1463), ⟨hA1484, rfl, ht1481.1⟩, ht1481.2⟩
          · have ht1454 := ht1443.2 (b_not_f hc)
            clear hc
            refine wp_skip ?_
            refine then_normal ?_
            refine wp_seq ?_
            refine draw' (by kernel_rfl) fun w1485 hE1486 => ?_
            have hC1487 : Chg [] w887 w1485 := hE1486
            have ht1488 := ht1454 w1485    hC1487
            obtain ⟨p_1491, hp1492, ht1493⟩ := ht1488
            obtain ⟨x_1496_Kind, x_1496_Name, x_1496_Text, x_1496_Attrs, x_1496_Kids, hx1497, ht1498⟩ := ht1493
            obtain ⟨p_1501, hp1502, ht1503⟩ := ht1498
            obtain ⟨x_1506_Kind, x_1506_Name, x_1506_Text, x_1506_Attrs, x_1506_Kids, hx1507, ht1508⟩ := ht1503
            obtain ⟨V_1512, hst1513, hc1514, ht1515⟩ := ht1508
            obtain ⟨p_1518, hp1519, ht1520⟩ := ht1515
            refine par (D := [[], [], [], [], [2, 3], [2, 3, 4], [2, 3, 4, 5], [], [], [7, 8], [7, 8, 9], [7, 8, 9, 10], [2, 3, 4, 5, 6, 7, 8, 9, 10, 11], [0, 1, 2, 3, 4, 5, 6, 7, 8, 9, 10, 11, 12], [0, 1, 2, 3, 4, 5, 6, 7, 8, 9, 10, 11, 12, 13]]) (S := [0, 1, 2, 3, 4, 5, 6, 7, 8, 9, 10, 11, 12, 13]) (F := []) (V := VL [(0, fun v _ => v = Sl.v r_330), (1, fun v _ => v = .int .i64 x_886), (2, fun v _ => v = Sl.v r_54), (3, fun v _ => v = .int .i64 x_886), (4, fun v _ => v = .pointer (some (p_1491.add (x_886.toNat * 10)))), (5, fun v _ => v = .pointer (some ((p_1491.add (x_886.toNat * 10)).add 5))), (6, fun v _ => v = .agg #[.int .i64 x_1496_Kind, .string (Bs x_1496_Name), .string (Bs x_1496_Text), Sl.v x_1496_Attrs, Sl.v x_1496_Kids]), (7, fun v _ => v = Sl.v r_60), (8, fun v _ => v = .int .i64 r_0_1440), (9, fun v _ => v = .pointer (some (p_1501.add (r_0_1440.toNat * 10)))), (10, fun v _ => v = .pointer (some ((p_1501.add (r_0_1440.toNat * 10)).add 5))), (11, fun v _ => v = .agg #[.int .i64 x_1506_Kind, .string (Bs x_1506_Name), .string (Bs x_1506_Text), Sl.v x_1506_Attrs, Sl.v x_1506_Kids]), (12, fun v w' => ∃ r_1511_Gone : Bool, ∃ r_1511_Text : Bool, ∃ r_1511_Set : Sl, ∃ r_1511_Unset : Sl, ∃ r_1511_Up : Int, ∃ r_1511_Kids : Sl, V_1512 r_1511_Gone r_1511_Text r_1511_Set r_1511_Unset r_1511_Up r_1511_Kids w' ∧ v = .agg #[.bool r_1511_Gone, .bool r_1511_Text, Sl.v r_1511_Set, Sl.v r_1511_Unset, .int .i64 r_1511_Up, Sl.v r_1511_Kids]), (13, fun v _ => v = .pointer (some (p_1518.add (x_886.toNat * 6))))]) hA1452 (by kernel_rfl) ⟨fun _ _ _ _ h => by first | exact h | (change _ = _ at h; change _ = _; exact h), fun _ _ _ _ h => by first | exact h | (change _ = _ at h; change _ = _; exact h), fun _ _ _ _ h => by first | exact h | (change _ = _ at h; change _ = _; exact h), fun _ _ _ _ h => by first | exact h | (change _ = _ at h; change _ = _; exact h), fun _ _ _ _ h => by first | exact h | (change _ = _ at h; change _ = _; exact h), fun _ _ _ _ h => by first | exact h | (change _ = _ at h; change _ = _; exact h), fun _ _ _ _ h => by first | exact h | (change _ = _ at h; change _ = _; exact h), fun _ _ _ _ h => by first | exact h | (change _ = _ at h; change _ = _; exact h), fun _ _ _ _ h => by first | exact h | (change _ = _ at h; change _ = _; exact h), fun _ _ _ _ h => by first | exact h | (change _ = _ at h; change _ = _; exact h), fun _ _ _ _ h => by first | exact h | (change _ = _ at h; change _ = _; exact h), fun _ _ _ _ h => by first | exact h | (change _ = _ at h; change _ = _; exact h), fun _ _ _ hE ⟨r_1511_Gone, r_1511_Text, r_1511_Set, r_1511_Unset, r_1511_Up, r_1511_Kids, h0_, e⟩ => ⟨r_1511_Gone, r_1511_Text, r_1511_Set, r_1511_Unset, r_1511_Up, r_1511_Kids, (hst1513 r_1511_Gone r_1511_Text r_1511_Set r_1511_Unset r_1511_Up r_1511_Kids _ _ hE h0_), e⟩, fun _ _ _ _ h => by first | exact h | (change _ = _ at h; change _ = _; exact h), trivial⟩ ⟨?_, ?_, ?_, ?_, ?_, ?_, ?_, ?_, ?_, ?_, ?_, ?_, ?_, ?_, trivial⟩ ?_
            · intro a w hT
              have hAp := hT.ag hA1452 [(15, Sl.v r_330)] ⟨rfl, trivial⟩ (by kernel_rfl)
              exact opk_val hAp rfl (r_move (hAp.get rfl)) fun _ _ e => ⟨_, e, Chg.refl _ _, fun _ => Eq.refl _⟩
            · intro a w hT
              have hAp := hT.ag hA1452 [(16, .int .i64 x_886)] ⟨rfl, trivial⟩ (by kernel_rfl)
              exact opk_val hAp rfl (r_move (hAp.get rfl)) fun _ _ e => ⟨_, e, Chg.refl _ _, fun _ => Eq.refl _⟩
            · intro a w hT
              have hAp := hT.ag hA1452 [(8, Sl.v r_54)] ⟨rfl, trivial⟩ (by kernel_rfl)
              exact opk_val hAp rfl (r_move (hAp.get rfl)) fun _ _ e => ⟨_, e, Chg.refl _ _, fun _ => Eq.refl _⟩
            · intro a w hT
              have hAp := hT.ag hA1452 [(16, .int .i64 x_886)] ⟨rfl, trivial⟩ (by kernel_rfl)
              exact opk_val hAp rfl (r_move (hAp.get rfl)) fun _ _ e => ⟨_, e, Chg.refl _ _, fun _ => Eq.refl _⟩
            · intro a w hT
              have hAp := hT.ag hA1452 [] trivial (by kernel_rfl)
              have e1489 : a.tmps.getD 72 undef = Sl.v r_54 := hT.vals 2 rfl 72 rfl
              have hAp := hAp.add e1489
              have e1490 : a.tmps.getD 73 undef = .int .i64 x_886 := hT.vals 3 rfl 73 rfl
              have hAp := hAp.add e1490
              exact opk_val hAp rfl (r_indexAddr (hAp.get rfl) (hAp.get rfl) Try.underlying79 ti_86 hp1492.1 hp1492.2) fun _ _ e => ⟨_, e, Chg.refl _ _, fun _ => Eq.refl _⟩
            · intro a w hT
              have hAp := hT.ag hA1452 [] trivial (by kernel_rfl)
              have e1494 : a.tmps.getD 74 undef = .pointer (some (p_1491.add (x_886.toNat * 10))) := hT.vals 4 rfl 74 rfl
              have hAp := hAp.add e1494
              exact opk_val hAp rfl (r_fieldAddr (hAp.get rfl) Try.underlying86 rfl ti_26 (by decide)) fun _ _ e => ⟨_, e, Chg.refl _ _, fun _ => Eq.refl _⟩
            · intro a w hT
              have hAp := hT.ag hA1452 [] trivial (by kernel_rfl)
              have e1495 : a.tmps.getD 75 undef = .pointer (some ((p_1491.add (x_886.toNat * 10)).add 5)) := hT.vals 5 rfl 75 rfl
              have hAp := hAp.add e1495
              exact opk_val hAp rfl (r_loadN Try.underlying26 rfl ti_26 (hAp.get rfl) (hx1497.ext hT.chg)) fun _ _ e => ⟨_, e, Chg.refl _ _, fun _ => Eq.refl _⟩
            · intro a w hT
              have hAp := hT.ag hA1452 [(9, Sl.v r_60)] ⟨rfl, trivial⟩ (by kernel_rfl)
              exact opk_val hAp rfl (r_move (hAp.get rfl)) fun _ _ e => ⟨_, e, Chg.refl _ _, fun _ => Eq.refl _⟩
            · intro a w hT
              have hAp := hT.ag hA1452 [(17, .int .i64 r_0_1440)] ⟨rfl, trivial⟩ (by kernel_rfl)
              exact opk_val hAp rfl (r_move (hAp.get rfl)) fun _ _ e => ⟨_, e, Chg.refl _ _, fun _ => Eq.refl _⟩
            · intro a w hT
              have hAp := hT.ag hA1452 [] trivial (by kernel_rfl)
              have e1499 : a.tmps.getD 77 undef = Sl.v r_60 := hT.vals 7 rfl 77 rfl
              have hAp := hAp.add e1499
              have e1500 : a.tmps.getD 78 undef = .int .i64 r_0_1440 := hT.vals 8 rfl 78 rfl
              have hAp := hAp.add e1500
              exact opk_val hAp rfl (r_indexAddr (hAp.get rfl) (hAp.get rfl) Try.underlying79 ti_86 hp1502.1 hp1502.2) fun _ _ e => ⟨_, e, Chg.refl _ _, fun _ => Eq.refl _⟩
            · intro a w hT
              have hAp := hT.ag hA1452 [] trivial (by kernel_rfl)
              have e1504 : a.tmps.getD 79 undef = .pointer (some (p_1501.add (r_0_1440.toNat * 10))) := hT.vals 9 rfl 79 rfl
              have hAp := hAp.add e1504
              exact opk_val hAp rfl (r_fieldAddr (hAp.get rfl) Try.underlying86 rfl ti_26 (by decide)) fun _ _ e => ⟨_, e, Chg.refl _ _, fun _ => Eq.refl _⟩
            · intro a w hT
              have hAp := hT.ag hA1452 [] trivial (by kernel_rfl)
              have e1505 : a.tmps.getD 80 undef = .pointer (some ((p_1501.add (r_0_1440.toNat * 10)).add 5)) := hT.vals 10 rfl 80 rfl
              have hAp := hAp.add e1505
              exact opk_val hAp rfl (r_loadN Try.underlying26 rfl ti_26 (hAp.get rfl) (hx1507.ext hT.chg)) fun _ _ e => ⟨_, e, Chg.refl _ _, fun _ => Eq.refl _⟩
            · intro a w hT
              have hAp := hT.ag hA1452 [] trivial (by kernel_rfl)
              have e1509 : a.tmps.getD 76 undef = .agg #[.int .i64 x_1496_Kind, .string (Bs x_1496_Name), .string (Bs x_1496_Text), Sl.v x_1496_Attrs, Sl.v x_1496_Kids] := hT.vals 6 rfl 76 rfl
              have hAp := hAp.add e1509
              have e1510 : a.tmps.getD 81 undef = .agg #[.int .i64 x_1506_Kind, .string (Bs x_1506_Name), .string (Bs x_1506_Text), Sl.v x_1506_Attrs, Sl.v x_1506_Kids] := hT.vals 11 rfl 81 rfl
              have hAp := hAp.add e1510
              exact opk_callX hAp rfl (r_call (args := #[.agg #[.int .i64 x_1496_Kind, .string (Bs x_1496_Name), .string (Bs x_1496_Text), Sl.v x_1496_Attrs, Sl.v x_1496_Kids], .agg #[.int .i64 x_1506_Kind, .string (Bs x_1506_Name), .string (Bs x_1506_Text), Sl.v x_1506_Attrs, Sl.v x_1506_Kids]]) Try.func39 (by decide) rfl (map_arr (ml_cons (hAp.get rfl) (ml_cons (hAp.get rfl) ml_nil))) rfl) (hc1514 w hT.chg) fun _ _ _ _ e ⟨hE, r_1511_Gone, r_1511_Text, r_1511_Set, r_1511_Unset, r_1511_Up, r_1511_Kids, he, hV⟩ => ⟨_, e, hE, fun _ => ⟨r_1511_Gone, r_1511_Text, r_1511_Set, r_1511_Unset, r_1511_Up, r_1511_Kids, hV, he⟩⟩
            · intro a w hT
              have hAp := hT.ag hA1452 [] trivial (by kernel_rfl)
              have e1516 : a.tmps.getD 70 undef = Sl.v r_330 := hT.vals 0 rfl 70 rfl
              have hAp := hAp.add e1516
              have e1517 : a.tmps.getD 71 undef = .int .i64 x_886 := hT.vals 1 rfl 71 rfl
              have hAp := hAp.add e1517
              exact opk_val hAp rfl (r_indexAddr (hAp.get rfl) (hAp.get rfl) Try.underlying33 ti_43 hp1519.1 hp1519.2) fun _ _ e => ⟨_, e, Chg.refl _ _, fun _ => Eq.refl _⟩
            · intro a1521 w1522 hE1523 hag1524 hv1525
              have hA1521 := hag1524 [(8, Sl.v r_54), (9, Sl.v r_60), (10, .map r_93), (14, .func (.func 38) #[] #[.pointer (some (⟨B_102, 0, none⟩ : Addr))]), (15, Sl.v r_330), (16, .int .i64 x_886), (17, .int .i64 r_0_1440), (54, .int .i64 (r_54.n : Int)), (55, .int .i64 x_886)] ⟨rfl, rfl, rfl, rfl, rfl, rfl, rfl, rfl, rfl, trivial⟩ (by kernel_rfl)
              obtain ⟨r_1511_Gone, r_1511_Text, r_1511_Set, r_1511_Unset, r_1511_Up, r_1511_Kids, hf1529, e1527⟩ := hv1525 12 rfl 82 rfl
              have hA1528 := hA1521.add e1527
              have e1530 : a1521.tmps.getD 83 undef = .pointer (some (p_1518.add (x_886.toNat * 6))) := hv1525 13 rfl 83 rfl
              have hA1531 := hA1528.add e1530
              have hC1532 : Chg [] w1485 w1522 := hE1523
              have ht1533 := ht1520 w1522 r_1511_Gone r_1511_Text r_1511_Set r_1511_Unset r_1511_Up r_1511_Kids hE1523 hf1529
              obtain ⟨B_1538, o_1539, T_1540, cs_1541, he1542, hb1543, hl1544, hx1545, ht1546⟩ := ht1533
              refine one (D := [[], [], [], [], [2, 3], [2, 3, 4], [2, 3, 4, 5], [], [], [7, 8], [7, 8, 9], [7, 8, 9, 10], [2, 3, 4, 5, 6, 7, 8, 9, 10, 11], [0, 1, 2, 3, 4, 5, 6, 7, 8, 9, 10, 11, 12], [0, 1, 2, 3, 4, 5, 6, 7, 8, 9, 10, 11, 12, 13]]) (i := 14) rfl (by kernel_rfl) (opk_store hA1531 hb1543 (r_store (vs := [.bool r_1511_Gone, .bool r_1511_Text, Sl.v r_1511_Set, Sl.v r_1511_Unset, .int .i64 r_1511_Up, Sl.v r_1511_Kids]) (((hA1531.get rfl)).trans (congrArg (fun a => Value.pointer (some a)) he1542)) (hA1531.get rfl) rfl ti_43 hb1543 (Nat.ble_eq_true_of_le hl1544) (ones_all [.bool r_1511_Gone, .bool r_1511_Text, Sl.v r_1511_Set, Sl.v r_1511_Unset, .int .i64 r_1511_Up, Sl.v r_1511_Kids] rfl)) fun a1535 w1534 hS1536 hB1537 hA1535 => ?_)
              have ht1547 := ht1546 w1534 hS1536 hB1537
              refine PR_end (by kernel_rfl) ?_
              have hA1548 := hA1535.keep [(8, Sl.v r_54), (9, Sl.v r_60), (10, .map r_93), (14, .func (.func 38) #[] #[.pointer (some (⟨B_102, 0, none⟩ : Addr))]), (15, Sl.v r_330), (16, .int .i64 x_886), (17, .int .i64 r_0_1440), (54, .int .i64 (r_54.n : Int)), (55, .int .i64 x_886)] ⟨rfl, rfl, rfl, rfl, rfl, rfl, rfl, rfl, rfl, trivial⟩
              refine then_normal ?_
              refine wp_seq ?_
              refine wp_region_lit ?_
              refine sq (opk_val hA1548 rfl (r_move (hA1548.get rfl)) fun a1549 hA1549 _ => ?_)
              refine sq (opk_val hA1549 rfl (r_move (hA1549.get rfl)) fun a1550 hA1550 _ => ?_)
              obtain ⟨hb1552, p_1551, hp1553, ht1554⟩ := ht1547
              refine sq (opk_val hA1550 rfl (r_indexAddr (hA1550.get rfl) (hA1550.get rfl) Try.underlying33 ti_43 hb1552 hp1553) fun a1555 hA1555 _ => ?_)
              refine sq (opk_val hA1555 rfl (r_fieldAddr (hA1555.get rfl) Try.underlying43 rfl ti_3 (by decide)) fun a1556 hA1556 _ => ?_)
              obtain ⟨B_1561, o_1562, T_1563, cs_1564, he1565, hb1566, hl1567, hx1568, ht1569⟩ := ht1554
              refine sq (opk_store hA1556 hb1566 (r_store (vs := [.int .i64 (-1)]) (((hA1556.get rfl)).trans (congrArg (fun a => Value.pointer (some a)) he1565)) rfl rfl ti_3 hb1566 (Nat.ble_eq_true_of_le hl1567) (ones_all [.int .i64 (-1)] rfl)) fun a1558 w1557 hS1559 hB1560 hA1558 => ?_)
              have ht1570 := ht1569 w1557 hS1559 hB1560
              refine sq_end ?_
              have hA1571 := hA1558.keep [(8, Sl.v r_54), (9, Sl.v r_60), (10, .map r_93), (14, .func (.func 38) #[] #[.pointer (some (⟨B_102, 0, none⟩ : Addr))]), (15, Sl.v r_330), (16, .int .i64 x_886), (17, .int .i64 r_0_1440), (54, .int .i64 (r_54.n : Int)), (55, .int .i64 x_886)] ⟨rfl, rfl, rfl, rfl, rfl, rfl, rfl, rfl, rfl, trivial⟩
              refine then_normal ?_
              refine wp_seq ?_
              refine wp_seq ?_
              refine wp_region_lit ?_
              refine sq (opk_val hA1571 rfl (r_move (hA1571.get rfl)) fun a1572 hA1572 _ => ?_)
              refine sq (opk_val hA1572 rfl (r_move (hA1572.get rfl)) fun a1573 hA1573 _ => ?_)
              obtain ⟨hb1575, p_1574, hp1576, ht1577⟩ := ht1570
              refine sq (opk_val hA1573 rfl (r_indexAddr (hA1573.get rfl) (hA1573.get rfl) Try.underlying79 ti_86 hb1575 hp1576) fun a1578 hA1578 _ => ?_)
              refine sq (opk_val hA1578 rfl (r_fieldAddr (hA1578.get rfl) Try.underlying86 rfl ti_3 (by decide)) fun a1579 hA1579 _ => ?_)
              obtain ⟨x_1581, hx1582, ht1583⟩ := ht1577
              refine sq (opk_val hA1579 rfl (r_load1 Try.underlying3 rfl (hA1579.get rfl) hx1582) fun a1580 hA1580 _ => ?_)
              refine sq (opk_val hA1580 rfl (r_assign (hA1580.get rfl)) fun a1584 hA1584 _ => ?_)
              refine sq_end ?_
              have hA1585 := hA1584.keep [(8, Sl.v r_54), (9, Sl.v r_60), (10, .map r_93), (14, .func (.func 38) #[] #[.pointer (some (⟨B_102, 0, none⟩ : Addr))]), (15, Sl.v r_330), (16, .int .i64 x_886), (17, .int .i64 r_0_1440), (19, .int .i64 x_1581), (54, .int .i64 (r_54.n : Int)), (55, .int .i64 x_886)] ⟨rfl, rfl, rfl, rfl, rfl, rfl, rfl, rfl, rfl, rfl, trivial⟩
              refine then_normal ?_
              refine wp_seq ?_
              refine wp_region_lit ?_
              refine sq (opk_val hA1585 rfl (r_move (hA1585.get rfl)) fun a1586 hA1586 _ => ?_)
              refine sq (opk_val hA1586 rfl (r_geq (hA1586.get rfl) rfl) fun a1587 hA1587 _ => ?_)
              refine sq_end ?_
              have hA1588 := hA1587.keep [(8, Sl.v r_54), (9, Sl.v r_60), (10, .map r_93), (14, .func (.func 38) #[] #[.pointer (some (⟨B_102, 0, none⟩ : Addr))]), (15, Sl.v r_330), (16, .int .i64 x_886), (17, .int .i64 r_0_1440), (19, .int .i64 x_1581), (54, .int .i64 (r_54.n : Int)), (55, .int .i64 x_886), (94, .bool (decide (0 ≤ x_1581)))] ⟨rfl, rfl, rfl, rfl, rfl, rfl, rfl, rfl, rfl, rfl, rfl, trivial⟩
              refine then_normal ?_
              obtain ⟨J_1625, ht1626, hr1627⟩ := ht1583
              refine wp_meet (fun a w => Ag 136 a [(8, Sl.v r_54), (9, Sl.v r_60), (10, .map r_93), (14, .func (.func 38) #[] #[.pointer (some (⟨B_102, 0, none⟩ : Addr))]), (15, Sl.v r_330), (16, .int .i64 x_886), (17, .int .i64 r_0_1440), (54, .int .i64 (r_54.n : Int)), (55, .int .i64 x_886)] ∧ J_1625 w) ?_ ?_
              · refine wp_cond_split (hA1588.get rfl) (fun hc => ?_) (fun hc => ?_)
                · have ht1628 := ht1626.1 (of_decide_eq_true hc)
                  clear hc
                  refine wp_region_lit ?_
                  refine sq (opk_val hA1588 rfl (r_move (hA1588.get rfl)) fun a1630 hA1630 _ => ?_)
                  refine sq (opk_val hA1630 rfl (r_move (hA1630.get rfl)) fun a1631 hA1631 _ => ?_)
                  refine sq (opk_val hA1631 rfl (r_move (hA1631.get rfl)) fun a1632 hA1632 _ => ?_)
                  refine sq (opk_val hA1632 rfl (r_move (hA1632.get rfl)) fun a1633 hA1633 _ => ?_)
                  refine sq (opk_call hA1633 rfl (r_callV (args := #[.int .i64 x_1581]) Try.func38 (by decide) rfl (map_arr (ml_cons (hA1633.get rfl) ml_nil)) (hA1633.get rfl)) ht1628 fun a1635 v1641 w1636 hA1635 _ hn1638 hz1639 hK1640 => ?_)
                  obtain ⟨r_1634, rfl, ht1637⟩ := hK1640
                  obtain ⟨hb1643, p_1642, hp1644, ht1645⟩ := ht1637
                  refine sq (opk_val hA1635 rfl (r_indexAddr (hA1635.get rfl) (hA1635.get rfl) Try.underlying33 ti_43 hb1643 hp1644) fun a1646 hA1646 _ => ?_)
                  refine sq (opk_val hA1646 rfl (r_fieldAddr (hA1646.get rfl) Try.underlying43 rfl ti_3 (by decide)) fun a1647 hA1647 _ => ?_)
                  obtain ⟨B_1652, o_1653, T_1654, cs_1655, he1656, hb1657, hl1658, hx1659, ht1660⟩ := ht1645
                  refine sq (opk_store hA1647 hb1657 (r_store (vs := [.int .i64 r_1634]) (((hA1647.get rfl)).trans (congrArg (fun a => Value.pointer (some a)) he1656)) (hA1647.get rfl) rfl ti_3 hb1657 (Nat.ble_eq_true_of_le hl1658) (ones_all [.int .i64 r_1634] rfl)) fun a1649 w1648 hS1650 hB1651 hA1649 => ?_)
                  have ht1661 := ht1660 w1648 hS1650 hB1651
                  refine sq_end ?_
                  have hA1662 := hA1649.keep [(8, Sl.v r_54), (9, Sl.v r_60), (10, .map r_93), (14, .func (.func 38) #[] #[.pointer (some (⟨B_102, 0, none⟩ : Addr))]), (15, Sl.v r_330), (16, .int .i64 x_886), (17, .int .i64 r_0_1440), (54, .int .i64 (r_54.n : Int)), (55, .int .i64 x_886)] ⟨rfl, rfl, rfl, rfl, rfl, rfl, rfl, rfl, rfl, trivial⟩
                  have hA1663 := hA1662.keep [(8, Sl.v r_54), (9, Sl.v r_60), (10, .map r_93), (14, .func (.func 38) #[] #[.pointer (some (⟨B_102, 0, none⟩ : Addr))]), (15, Sl.v r_330), (16, .int .i64 x_886), (17, .int .i64 r_0_1440), (54, .int .i64 (r_54.n : Int)), (55, .int .i64 x_886)] ⟨rfl, rfl, rfl, rfl, rfl, rfl, rfl, rfl, rfl, trivial⟩
                  exact then_normal ⟨hA1663, ht1661⟩
                · have ht1629 := ht1626.2 (of_decide_eq_false hc)
                  clear hc
                  refine wp_skip ?_
                  have hA1664 := hA1588.keep [(8, Sl.v r_54), (9, Sl.v r_60), (10, .map r_93), (14, .func (.func 38) #[] #[.pointer (some (⟨B_102, 0, none⟩ : Addr))]), (15, Sl.v r_330), (16, .int .i64 x_886), (17, .int .i64 r_0_1440), (54, .int .i64 (r_54.n : Int)), (55, .int .i64 x_886)] ⟨rfl, rfl, rfl, rfl, rfl, rfl, rfl, rfl, rfl, trivial⟩
                  exact then_normal ⟨hA1664, ht1629⟩
              · intro a1665 w1624 hm
                obtain ⟨hA1665, hJ1965⟩ := hm
                have ht1666 := hr1627 w1624 hJ1965
                refine then_normal ?_
                refine wp_seq ?_
                refine wp_region_lit ?_
                refine sq (opk_val hA1665 rfl (r_move (hA1665.get rfl)) fun a1667 hA1667 _ => ?_)
                obtain ⟨hS1669, ht1670⟩ := ht1666
                refine sq (opk_val hA1667 rfl (r_addI (hA1667.get rfl) rfl hS1669) fun a1668 hA1668 _ => ?_)
                refine sq (opk_val hA1668 rfl (r_assign (hA1668.get rfl)) fun a1671 hA1671 _ => ?_)
                refine sq_end ?_
                have hA1672 := hA1671.keep [(8, Sl.v r_54), (9, Sl.v r_60), (10, .map r_93), (14, .func (.func 38) #[] #[.pointer (some (⟨B_102, 0, none⟩ : Addr))]), (15, Sl.v r_330), (16, .int .i64 x_886), (17, .int .i64 r_0_1440), (20, .int .i64 (r_0_1440 + 1)), (54, .int .i64 (r_54.n : Int)), (55, .int .i64 x_886)] ⟨rfl, rfl, rfl, rfl, rfl, rfl, rfl, rfl, rfl, rfl, trivial⟩
                refine then_normal ?_
                refine wp_block ?_
                obtain ⟨J_1675, mu_1676, h01817, ht1816⟩ := ht1670
                refine wp_loop_st (σ := Int × World) (fun s a w => Ag 136 a [(8, Sl.v r_54), (9, Sl.v r_60), (10, .map r_93), (14, .func (.func 38) #[] #[.pointer (some (⟨B_102, 0, none⟩ : Addr))]), (15, Sl.v r_330), (16, .int .i64 x_886), (17, .int .i64 r_0_1440), (20, .int .i64 s.1), (54, .int .i64 (r_54.n : Int)), (55, .int .i64 x_886)] ∧ w = s.2 ∧ J_1675 s.1 s.2) (fun s => mu_1676 s.1 s.2) (r_0_1440 + 1, w1624) ⟨hA1672.keep [(8, Sl.v r_54), (9, Sl.v r_60), (10, .map r_93), (14, .func (.func 38) #[] #[.pointer (some (⟨B_102, 0, none⟩ : Addr))]), (15, Sl.v r_330), (16, .int .i64 x_886), (17, .int .i64 r_0_1440), (20, .int .i64 (r_0_1440 + 1)), (54, .int .i64 (r_54.n : Int)), (55, .int .i64 x_886)] ⟨rfl, rfl, rfl, rfl, rfl, rfl, rfl, rfl, rfl, rfl, trivial⟩, rfl, h01817⟩ ?_
                rintro ⟨k_1673, w1674⟩ a1815 w_ ⟨hA1815, hw_, hJ1819⟩
                have hw_ : w1674 = w_ := hw_.symm
                subst hw_
                have ht1818 := ht1816 k_1673 _ hJ1819
                refine wp_seq ?_
                refine wp_seq ?_
                refine wp_region_lit ?_
                refine sq (opk_val hA1815 rfl (r_move (hA1815.get rfl)) fun a1820 hA1820 _ => ?_)
                refine sq (opk_val hA1820 rfl (r_move (hA1820.get rfl)) fun a1821 hA1821 _ => ?_)
                refine sq (opk_val hA1821 rfl (r_move (hA1821.get rfl)) fun a1822 hA1822 _ => ?_)
                refine sq (opk_val hA1822 rfl (r_move (hA1822.get rfl)) fun a1823 hA1823 _ => ?_)
                obtain ⟨hb1825, p_1824, hp1826, ht1827⟩ := ht1818
                refine sq (opk_val hA1823 rfl (r_indexAddr (hA1823.get rfl) (hA1823.get rfl) Try.underlying79 ti_86 hb1825 hp1826) fun a1828 hA1828 _ => ?_)
                refine sq (opk_val hA1828 rfl (r_fieldAddr (hA1828.get rfl) Try.underlying86 rfl ti_3 (by decide)) fun a1829 hA1829 _ => ?_)
                obtain ⟨x_1831, hx1832, ht1833⟩ := ht1827
                refine sq (opk_val hA1829 rfl (r_load1 Try.underlying3 rfl (hA1829.get rfl) hx1832) fun a1830 hA1830 _ => ?_)
                obtain ⟨hS1835, ht1836⟩ := ht1833
                refine sq (opk_val hA1830 rfl (r_addI (hA1830.get rfl) (hA1830.get rfl) hS1835) fun a1834 hA1834 _ => ?_)
                refine sq (opk_val hA1834 rfl (r_lss (hA1834.get rfl) (hA1834.get rfl)) fun a1837 hA1837 _ => ?_)
                refine sq_end ?_
                have hA1838 := hA1837.keep [(8, Sl.v r_54), (9, Sl.v r_60), (10, .map r_93), (14, .func (.func 38) #[] #[.pointer (some (⟨B_102, 0, none⟩ : Addr))]), (15, Sl.v r_330), (16, .int .i64 x_886), (17, .int .i64 r_0_1440), (20, .int .i64 k_1673), (54, .int .i64 (r_54.n : Int)), (55, .int .i64 x_886), (112, .bool (decide (k_1673 < (r_0_1440 + x_1831))))] ⟨rfl, rfl, rfl, rfl, rfl, rfl, rfl, rfl, rfl, rfl, rfl, trivial⟩
                refine then_normal ?_
                refine wp_cond_split (hA1838.get rfl) (fun hc => ?_) (fun hc => ?_)
                · have ht1839 := ht1836.1 (of_decide_eq_true hc)
                  clear hc
                  refine wp_skip ?_
                  refine then_normal ?_
                  refine wp_seq ?_
                  refine wp_block ?_
                  refine draw' (by kernel_rfl) fun w1841 hE1842 => ?_
                  have hC1843 : Chg [] w1674 w1841 := hE1842
                  have ht1844 := ht1839 w1841    hC1843
                  obtain ⟨p_1845, hp1846, ht1847⟩ := ht1844
                  obtain ⟨x_1848, hx1849, ht1850⟩ := ht1847
                  refine startF (D := [[], [], [], [], [2, 3], [2, 3, 4], [2, 3, 4, 5], [], [], [7, 8], [7, 8, 9], [2, 3, 4, 5, 6, 7, 8, 9, 10], [0, 1, 2, 3, 4, 5, 6, 7, 8, 9, 10, 11], [0, 1, 2, 3, 4, 5, 6, 7, 8, 9, 10, 11, 12], [0, 1, 2, 3, 4, 5, 6, 7, 8, 9, 10, 11, 12, 13]]) (Fs := [0, 1, 2, 3, 4, 5, 6, 7, 8]) (Ef := [(0, fun v _ => v = Sl.v r_330), (1, fun v _ => v = .int .i64 x_886), (2, fun v _ => v = Sl.v r_330), (3, fun v _ => v = .int .i64 x_886), (4, fun v _ => v = .pointer (some (p_1845.add (x_886.toNat * 6)))), (5, fun v _ => v = .pointer (some ((p_1845.add (x_886.toNat * 6)).add 5))), (6, fun v _ => v = Sl.v x_1848), (7, fun v _ => v = .func (.func 38) #[] #[.pointer (some (⟨B_102, 0, none⟩ : Addr))]), (8, fun v _ => v = .int .i64 k_1673)]) (by kernel_rfl) ?_
                  obtain ⟨r_1853, hc1854, ht1855⟩ := ht1850
                  refine parF (D := [[], [], [], [], [2, 3], [2, 3, 4], [2, 3, 4, 5], [], [], [7, 8], [7, 8, 9], [2, 3, 4, 5, 6, 7, 8, 9, 10], [0, 1, 2, 3, 4, 5, 6, 7, 8, 9, 10, 11], [0, 1, 2, 3, 4, 5, 6, 7, 8, 9, 10, 11, 12], [0, 1, 2, 3, 4, 5, 6, 7, 8, 9, 10, 11, 12, 13]]) (S := [9, 10]) (F := []) (KE := [9, 10]) (E := [(9, fun v _ => v = .int .i64 r_1853), (10, fun v w' => ∃ B_1857 : Nat, w1841.heap.size ≤ B_1857 ∧ Box w' B_1857 3 [.int .i64 r_1853] ∧ v = Sl.v (Sl.mk (some ⟨B_1857, 0, none⟩) 1 1))]) hA1838 rfl (by kernel_rfl) ⟨fun _ _ _ _ h => by first | exact h | (change _ = _ at h; change _ = _; exact h), fun _ _ _ hE ⟨B_1857, h0_, h1_, e⟩ => ⟨B_1857, h0_, (h1_.ext hE), e⟩, fun _ _ _ _ h => by first | exact h | (change _ = _ at h; change _ = _; exact h), fun _ _ _ _ h => by first | exact h | (change _ = _ at h; change _ = _; exact h), fun _ _ _ _ h => by first | exact h | (change _ = _ at h; change _ = _; exact h), fun _ _ _ _ h => by first | exact h | (change _ = _ at h; change _ = _; exact h), fun _ _ _ _ h => by first | exact h | (change _ = _ at h; change _ = _; exact h), fun _ _ _ _ h => by first | exact h | (change _ = _ at h; change _ = _; exact h), fun _ _ _ _ h => by first | exact h | (change _ = _ at h; change _ = _; exact h), fun _ _ _ _ h => by first | exact h | (change _ = _ at h; change _ = _; exact h), fun _ _ _ _ h => by first | exact h | (change _ = _ at h; change _ = _; exact h), trivial⟩ ⟨?_, ?_, ?_, ?_, ?_, ?_, ?_, ?_, ?_, ?_, ?_, trivial⟩ ?_
                  · intro a w hT
                    have hAp := hT.ag hA1838 [] trivial (by kernel_rfl)
                    have e1851 : a.tmps.getD 127 undef = .func (.func 38) #[] #[.pointer (some (⟨B_102, 0, none⟩ : Addr))] := hT.vals 7 rfl 127 rfl
                    have hAp := hAp.add e1851
                    have e1852 : a.tmps.getD 128 undef = .int .i64 k_1673 := hT.vals 8 rfl 128 rfl
                    have hAp := hAp.add e1852
                    exact opk_callX hAp rfl (r_callV (args := #[.int .i64 k_1673]) Try.func38 (by decide) rfl (map_arr (ml_cons (hAp.get rfl) ml_nil)) (hAp.get rfl)) (hc1854 w hT.chg) fun _ _ _ _ e hR => ⟨_, e, hR.1, fun _ => hR.2⟩
                  · intro a w hT
                    have hAp := hT.ag hA1838 [] trivial (by kernel_rfl)
                    have e1856 : a.tmps.getD 129 undef = .int .i64 r_1853 := hT.vals 9 rfl 129 rfl
                    have hAp := hAp.add e1856
                    exact opk_new (fun B => .slice (some ⟨B, 0, none⟩) 1 1) hAp rfl (r_buildSlice (vs := #[(0, .int .i64 r_1853)]) (cs := [.int .i64 r_1853]) (map_arr2 (ml2_cons (hAp.get rfl) (ml2_nil))) Try.underlying22 ti_3 rfl rfl (by kernel_rfl)) fun _ w1858 B_1857 hE1859 hN1860 hB1861 _ e => ⟨_, e, hE1859, fun _ => ⟨B_1857, Nat.le_trans hT.chg.size hN1860.ge, hB1861, rfl⟩⟩
                  · intro a w hT
                    have hAp := hT.ag hA1838 [(15, Sl.v r_330)] ⟨rfl, trivial⟩ (by kernel_rfl)
                    exact opk_val hAp rfl (r_move (hAp.get rfl)) fun _ _ e => ⟨_, e, Chg.refl _ _, fun _ => Eq.refl _⟩
                  · intro a w hT
                    have hAp := hT.ag hA1838 [(16, .int .i64 x_886)] ⟨rfl, trivial⟩ (by kernel_rfl)
                    exact opk_val hAp rfl (r_move (hAp.get rfl)) fun _ _ e => ⟨_, e, Chg.refl _ _, fun _ => Eq.refl _⟩
                  · intro a w hT
                    have hAp := hT.ag hA1838 [(15, Sl.v r_330)] ⟨rfl, trivial⟩ (by kernel_rfl)
                    exact opk_val hAp rfl (r_move (hAp.get rfl)) fun _ _ e => ⟨_, e, Chg.refl _ _, fun _ => Eq.refl _⟩
                  · intro a w hT
                    have hAp := hT.ag hA1838 [(16, .int .i64 x_886)] ⟨rfl, trivial⟩ (by kernel_rfl)
                    exact opk_val hAp rfl (r_move (hAp.get rfl)) fun _ _ e => ⟨_, e, Chg.refl _ _, fun _ => Eq.refl _⟩
                  · intro a w hT
                    have hAp := hT.ag hA1838 [] trivial (by kernel_rfl)
                    have e1862 : a.tmps.getD 122 undef = Sl.v r_330 := hT.vals 2 rfl 122 rfl
                    have hAp := hAp.add e1862
                    have e1863 : a.tmps.getD 123 undef = .int .i64 x_886 := hT.vals 3 rfl 123 rfl
                    have hAp := hAp.add e1863
                    exact opk_val hAp rfl (r_indexAddr (hAp.get rfl) (hAp.get rfl) Try.underlying33 ti_43 hp1846.1 hp1846.2) fun _ _ e => ⟨_, e, Chg.refl _ _, fun _ => Eq.refl _⟩
                  · intro a w hT
                    have hAp := hT.ag hA1838 [] trivial (by kernel_rfl)
                    have e1864 : a.tmps.getD 124 undef = .pointer (some (p_1845.add (x_886.toNat * 6))) := hT.vals 4 rfl 124 rfl
                    have hAp := hAp.add e1864
                    exact opk_val hAp rfl (r_fieldAddr (hAp.get rfl) Try.underlying43 rfl ti_22 (by decide)) fun _ _ e => ⟨_, e, Chg.refl _ _, fun _ => Eq.refl _⟩
                  · intro a w hT
                    have hAp := hT.ag hA1838 [] trivial (by kernel_rfl)
                    have e1865 : a.tmps.getD 125 undef = .pointer (some ((p_1845.add (x_886.toNat * 6)).add 5)) := hT.vals 5 rfl 125 rfl
                    have hAp := hAp.add e1865
                    exact opk_val hAp rfl (r_load1 Try.underlying22 rfl (hAp.get rfl) (Ext.cell hT.chg hx1849)) fun _ _ e => ⟨_, e, Chg.refl _ _, fun _ => Eq.refl _⟩
                  · intro a w hT
                    have hAp := hT.ag hA1838 [(14, .func (.func 38) #[] #[.pointer (some (⟨B_102, 0, none⟩ : Addr))])] ⟨rfl, trivial⟩ (by kernel_rfl)
                    exact opk_val hAp rfl (r_move (hAp.get rfl)) fun _ _ e => ⟨_, e, Chg.refl _ _, fun _ => Eq.refl _⟩
                  · intro a w hT
                    have hAp := hT.ag hA1838 [(20, .int .i64 k_1673)] ⟨rfl, trivial⟩ (by kernel_rfl)
                    exact opk_val hAp rfl (r_move (hAp.get rfl)) fun _ _ e => ⟨_, e, Chg.refl _ _, fun _ => Eq.refl _⟩
                  · intro a1866 w1867 hE1868 hag1869 hv1870
                    have hA1866 := hag1869 [(8, Sl.v r_54), (9, Sl.v r_60), (10, .map r_93), (14, .func (.func 38) #[] #[.pointer (some (⟨B_102, 0, none⟩ : Addr))]), (15, Sl.v r_330), (16, .int .i64 x_886), (17, .int .i64 r_0_1440), (20, .int .i64 k_1673), (54, .int .i64 (r_54.n : Int)), (55, .int .i64 x_886)] ⟨rfl, rfl, rfl, rfl, rfl, rfl, rfl, rfl, rfl, rfl, trivial⟩ (by kernel_rfl)
                    obtain ⟨B_1857, hf1874, hf1875, e1872⟩ := hv1870 10 rfl 130 rfl
                    have hA1873 := hA1866.add e1872
                    have hC1876 : Chg [] w1841 w1867 := hE1868
                    have hf1877 := Ext.cell hE1868 hx1849
                    have ht1878 := ht1855 w1867 B_1857 hE1868 hf1874 hf1875
                    refine oneF (c := 11) hA1873 rfl (by kernel_rfl) (constF ⟨fun _ _ _ h => by first | exact h | (change _ = _ at h; change _ = _; exact h), fun _ _ _ h => by first | exact h | (change _ = _ at h; change _ = _; exact h), fun _ _ _ h => by first | exact h | (change _ = _ at h; change _ = _; exact h), fun _ _ _ h => by first | exact h | (change _ = _ at h; change _ = _; exact h), fun _ _ _ h => by first | exact h | (change _ = _ at h; change _ = _; exact h), fun _ _ _ h => by first | exact h | (change _ = _ at h; change _ = _; exact h), fun _ _ _ h => by first | exact h | (change _ = _ at h; change _ = _; exact h), fun _ _ _ h => by first | exact h | (change _ = _ at h; change _ = _; exact h), fun _ _ _ h => by first | exact h | (change _ = _ at h; change _ = _; exact h), trivial⟩) ⟨?_, ?_, ?_, ?_, ?_, ?_, ?_, ?_, ?_, trivial⟩ ?_
                    · intro a hT
                      have hAp := hT.ag hA1873 [(15, Sl.v r_330)] ⟨rfl, trivial⟩ (by kernel_rfl)
                      exact opk_val hAp rfl (r_move (hAp.get rfl)) fun _ _ e => ⟨_, e, rfl, fun _ => Eq.refl _⟩
                    · intro a hT
                      have hAp := hT.ag hA1873 [(16, .int .i64 x_886)] ⟨rfl, trivial⟩ (by kernel_rfl)
                      exact opk_val hAp rfl (r_move (hAp.get rfl)) fun _ _ e => ⟨_, e, rfl, fun _ => Eq.refl _⟩
                    · intro a hT
                      have hAp := hT.ag hA1873 [(15, Sl.v r_330)] ⟨rfl, trivial⟩ (by kernel_rfl)
                      exact opk_val hAp rfl (r_move (hAp.get rfl)) fun _ _ e => ⟨_, e, rfl, fun _ => Eq.refl _⟩
                    · intro a hT
                      have hAp := hT.ag hA1873 [(16, .int .i64 x_886)] ⟨rfl, trivial⟩ (by kernel_rfl)
                      exact opk_val hAp rfl (r_move (hAp.get rfl)) fun _ _ e => ⟨_, e, rfl, fun _ => Eq.refl _⟩
                    · intro a hT
                      have hAp := hT.ag hA1873 [] trivial (by kernel_rfl)
                      have e1879 : a.tmps.getD 122 undef = Sl.v r_330 := hT.vals 2 rfl 122 rfl
                      have hAp := hAp.add e1879
                      have e1880 : a.tmps.getD 123 undef = .int .i64 x_886 := hT.vals 3 rfl 123 rfl
                      have hAp := hAp.add e1880
                      exact opk_val hAp rfl (r_indexAddr (hAp.get rfl) (hAp.get rfl) Try.underlying33 ti_43 hp1846.1 hp1846.2) fun _ _ e => ⟨_, e, rfl, fun _ => Eq.refl _⟩
                    · intro a hT
                      have hAp := hT.ag hA1873 [] trivial (by kernel_rfl)
                      have e1881 : a.tmps.getD 124 undef = .pointer (some (p_1845.add (x_886.toNat * 6))) := hT.vals 4 rfl 124 rfl
                      have hAp := hAp.add e1881
                      exact opk_val hAp rfl (r_fieldAddr (hAp.get rfl) Try.underlying43 rfl ti_22 (by decide)) fun _ _ e => ⟨_, e, rfl, fun _ => Eq.refl _⟩
                    · intro a hT
                      have hAp := hT.ag hA1873 [] trivial (by kernel_rfl)
                      have e1882 : a.tmps.getD 125 undef = .pointer (some ((p_1845.add (x_886.toNat * 6)).add 5)) := hT.vals 5 rfl 125 rfl
                      have hAp := hAp.add e1882
                      exact opk_val hAp rfl (r_load1 Try.underlying22 rfl (hAp.get rfl) (Ext.cell hT.chg hf1877)) fun _ _ e => ⟨_, e, rfl, fun _ => Eq.refl _⟩
                    · intro a hT
                      have hAp := hT.ag hA1873 [(14, .func (.func 38) #[] #[.pointer (some (⟨B_102, 0, none⟩ : Addr))])] ⟨rfl, trivial⟩ (by kernel_rfl)
                      exact opk_val hAp rfl (r_move (hAp.get rfl)) fun _ _ e => ⟨_, e, rfl, fun _ => Eq.refl _⟩
                    · intro a hT
                      have hAp := hT.ag hA1873 [(20, .int .i64 k_1673)] ⟨rfl, trivial⟩ (by kernel_rfl)
                      exact opk_val hAp rfl (r_move (hAp.get rfl)) fun _ _ e => ⟨_, e, rfl, fun _ => Eq.refl _⟩
                    · intro a1883 hT
                      have hA1883 := hT.ag hA1873 [(8, Sl.v r_54), (9, Sl.v r_60), (10, .map r_93), (14, .func (.func 38) #[] #[.pointer (some (⟨B_102, 0, none⟩ : Addr))]), (15, Sl.v r_330), (16, .int .i64 x_886), (17, .int .i64 r_0_1440), (20, .int .i64 k_1673), (54, .int .i64 (r_54.n : Int)), (55, .int .i64 x_886), (130, Sl.v (Sl.mk (some ⟨B_1857, 0, none⟩) 1 1))] ⟨rfl, rfl, rfl, rfl, rfl, rfl, rfl, rfl, rfl, rfl, rfl, trivial⟩ (by kernel_rfl)
                      have e1884 : a1883.tmps.getD 126 undef = Sl.v x_1848 := hT.vals 6 rfl 126 rfl
                      have hA1885 := hA1883.add e1884
                      have ht1886 := ht1878 hf1875
                      refine (opk_run hA1885 rfl (fun _ _ hr => r_append (hA1885.get rfl) (hA1885.get rfl) hr) ht1886 fun a1887 v1893 w1888 hA1887 heq1957 hn1890 hz1891 hK1892 => ?_)
                      refine ⟨_, heq1957, ?_⟩
                      obtain ⟨r_1894, rfl, ht1889⟩ := hK1892
                      refine PRF_drop (X := [2, 3, 4, 5, 6, 7, 8]) (Fs' := [0, 1]) hA1887 (by kernel_rfl) fun a1895 hag1896 hv1897 => ?_
                      have hA1895 := hag1896 [(8, Sl.v r_54), (9, Sl.v r_60), (10, .map r_93), (14, .func (.func 38) #[] #[.pointer (some (⟨B_102, 0, none⟩ : Addr))]), (15, Sl.v r_330), (16, .int .i64 x_886), (17, .int .i64 r_0_1440), (20, .int .i64 k_1673), (54, .int .i64 (r_54.n : Int)), (55, .int .i64 x_886), (131, Sl.v r_1894)] ⟨rfl, rfl, rfl, rfl, rfl, rfl, rfl, rfl, rfl, rfl, rfl, trivial⟩ (by kernel_rfl)
                      refine joinF hA1895 (by kernel_rfl) ⟨fun _ _ _ _ h => by first | exact h | (change _ = _ at h; change _ = _; exact h), fun _ _ _ _ h => by first | exact h | (change _ = _ at h; change _ = _; exact h), trivial⟩ ⟨?_, ?_, trivial⟩ ?_
                      · intro a w hT
                        have hAp := hT.ag hA1895 [(15, Sl.v r_330)] ⟨rfl, trivial⟩ (by kernel_rfl)
                        exact opk_val hAp rfl (r_move (hAp.get rfl)) fun _ _ e => ⟨_, e, Chg.refl _ _, fun _ => Eq.refl _⟩
                      · intro a w hT
                        have hAp := hT.ag hA1895 [(16, .int .i64 x_886)] ⟨rfl, trivial⟩ (by kernel_rfl)
                        exact opk_val hAp rfl (r_move (hAp.get rfl)) fun _ _ e => ⟨_, e, Chg.refl _ _, fun _ => Eq.refl _⟩
                      · intro a1898 w1899 hE1900 hag1901 hv1902
                        have hA1898 := hag1901 [(8, Sl.v r_54), (9, Sl.v r_60), (10, .map r_93), (14, .func (.func 38) #[] #[.pointer (some (⟨B_102, 0, none⟩ : Addr))]), (15, Sl.v r_330), (16, .int .i64 x_886), (17, .int .i64 r_0_1440), (20, .int .i64 k_1673), (54, .int .i64 (r_54.n : Int)), (55, .int .i64 x_886), (131, Sl.v r_1894)] ⟨rfl, rfl, rfl, rfl, rfl, rfl, rfl, rfl, rfl, rfl, rfl, trivial⟩ (by kernel_rfl)
                        have e1903 : a1898.tmps.getD 120 undef = Sl.v r_330 := hv1902 0 rfl 120 rfl
                        have hA1904 := hA1898.add e1903
                        have e1905 : a1898.tmps.getD 121 undef = .int .i64 x_886 := hv1902 1 rfl 121 rfl
                        have hA1906 := hA1904.add e1905
                        have hC1907 : Chg [] w1888 w1899 := hE1900
                        have ht1908 := ht1889 w1899    hC1907
                        obtain ⟨p_1909, hp1910, ht1911⟩ := ht1908
                        refine par (D := [[], [], [], [], [2, 3], [2, 3, 4], [2, 3, 4, 5], [], [], [7, 8], [7, 8, 9], [2, 3, 4, 5, 6, 7, 8, 9, 10], [0, 1, 2, 3, 4, 5, 6, 7, 8, 9, 10, 11], [0, 1, 2, 3, 4, 5, 6, 7, 8, 9, 10, 11, 12], [0, 1, 2, 3, 4, 5, 6, 7, 8, 9, 10, 11, 12, 13]]) (S := [12, 13]) (F := []) (V := VL [(12, fun v _ => v = .pointer (some (p_1909.add (x_886.toNat * 6)))), (13, fun v _ => v = .pointer (some ((p_1909.add (x_886.toNat * 6)).add 5)))]) hA1906 (by kernel_rfl) ⟨fun _ _ _ _ h => by first | exact h | (change _ = _ at h; change _ = _; exact h), fun _ _ _ _ h => by first | exact h | (change _ = _ at h; change _ = _; exact h), trivial⟩ ⟨?_, ?_, trivial⟩ ?_
                        · intro a w hT
                          have hAp := hT.ag hA1906 [(120, Sl.v r_330), (121, .int .i64 x_886)] ⟨rfl, rfl, trivial⟩ (by kernel_rfl)
                          exact opk_val hAp rfl (r_indexAddr (hAp.get rfl) (hAp.get rfl) Try.underlying33 ti_43 hp1910.1 hp1910.2) fun _ _ e => ⟨_, e, Chg.refl _ _, fun _ => Eq.refl _⟩
                        · intro a w hT
                          have hAp := hT.ag hA1906 [] trivial (by kernel_rfl)
                          have e1912 : a.tmps.getD 132 undef = .pointer (some (p_1909.add (x_886.toNat * 6))) := hT.vals 12 rfl 132 rfl
                          have hAp := hAp.add e1912
                          exact opk_val hAp rfl (r_fieldAddr (hAp.get rfl) Try.underlying43 rfl ti_22 (by decide)) fun _ _ e => ⟨_, e, Chg.refl _ _, fun _ => Eq.refl _⟩
                        · intro a1913 w1914 hE1915 hag1916 hv1917
                          have hA1913 := hag1916 [(8, Sl.v r_54), (9, Sl.v r_60), (10, .map r_93), (14, .func (.func 38) #[] #[.pointer (some (⟨B_102, 0, none⟩ : Addr))]), (15, Sl.v r_330), (16, .int .i64 x_886), (17, .int .i64 r_0_1440), (20, .int .i64 k_1673), (54, .int .i64 (r_54.n : Int)), (55, .int .i64 x_886), (131, Sl.v r_1894)] ⟨rfl, rfl, rfl, rfl, rfl, rfl, rfl, rfl, rfl, rfl, rfl, trivial⟩ (by kernel_rfl)
                          have e1919 : a1913.tmps.getD 133 undef = .pointer (some ((p_1909.add (x_886.toNat * 6)).add 5)) := hv1917 13 rfl 133 rfl
                          have hA1920 := hA1913.add e1919
                          have hC1921 : Chg [] w1899 w1914 := hE1915
                          have ht1926 := ht1911 w1914    hC1921
                          obtain ⟨B_1927, o_1928, T_1929, cs_1930, he1931, hb1932, hl1933, hx1934, ht1935⟩ := ht1926
                          refine one (D := [[], [], [], [], [2, 3], [2, 3, 4], [2, 3, 4, 5], [], [], [7, 8], [7, 8, 9], [2, 3, 4, 5, 6, 7, 8, 9, 10], [0, 1, 2, 3, 4, 5, 6, 7, 8, 9, 10, 11], [0, 1, 2, 3, 4, 5, 6, 7, 8, 9, 10, 11, 12], [0, 1, 2, 3, 4, 5, 6, 7, 8, 9, 10, 11, 12, 13]]) (i := 14) rfl (by kernel_rfl) (opk_store hA1920 hb1932 (r_store (vs := [Sl.v r_1894]) (((hA1920.get rfl)).trans (congrArg (fun a => Value.pointer (some a)) he1931)) (hA1920.get rfl) rfl ti_22 hb1932 (Nat.ble_eq_true_of_le hl1933) (ones_all [Sl.v r_1894] rfl)) fun a1923 w1922 hS1924 hB1925 hA1923 => ?_)
                          have ht1936 := ht1935 w1922 hS1924 hB1925
                          refine PR_end (by kernel_rfl) ?_
                          have hA1937 := hA1923.keep [(8, Sl.v r_54), (9, Sl.v r_60), (10, .map r_93), (14, .func (.func 38) #[] #[.pointer (some (⟨B_102, 0, none⟩ : Addr))]), (15, Sl.v r_330), (16, .int .i64 x_886), (17, .int .i64 r_0_1440), (20, .int .i64 k_1673), (54, .int .i64 (r_54.n : Int)), (55, .int .i64 x_886)] ⟨rfl, rfl, rfl, rfl, rfl, rfl, rfl, rfl, rfl, rfl, trivial⟩
                          refine block_normal ?_
                          refine then_normal ?_
                          refine wp_region_lit ?_
                          refine sq (opk_val hA1937 rfl (r_move (hA1937.get rfl)) fun a1938 hA1938 _ => ?_)
                          refine sq (opk_val hA1938 rfl (r_move (hA1938.get rfl)) fun a1939 hA1939 _ => ?_)
                          refine sq (opk_val hA1939 rfl (r_move (hA1939.get rfl)) fun a1940 hA1940 _ => ?_)
                          obtain ⟨hb1942, p_1941, hp1943, ht1944⟩ := ht1936
                          refine sq (opk_val hA1940 rfl (r_indexAddr (hA1940.get rfl) (hA1940.get rfl) Try.underlying79 ti_86 hb1942 hp1943) fun a1945 hA1945 _ => ?_)
                          refine sq (opk_val hA1945 rfl (r_fieldAddr (hA1945.get rfl) Try.underlying86 rfl ti_3 (by decide)) fun a1946 hA1946 _ => ?_)
                          obtain ⟨x_1948, hx1949, ht1950⟩ := ht1944
                          refine sq (opk_val hA1946 rfl (r_load1 Try.underlying3 rfl (hA1946.get rfl) hx1949) fun a1947 hA1947 _ => ?_)
                          obtain ⟨hS1952, ht1953⟩ := ht1950
                          refine sq (opk_val hA1947 rfl (r_addI (hA1947.get rfl) (hA1947.get rfl) hS1952) fun a1951 hA1951 _ => ?_)
                          refine sq (opk_val hA1951 rfl (r_assign (hA1951.get rfl)) fun a1954 hA1954 _ => ?_)
                          refine sq_end ?_
                          have hA1955 := hA1954.keep [(8, Sl.v r_54), (9, Sl.v r_60), (10, .map r_93), (14, .func (.func 38) #[] #[.pointer (some (⟨B_102, 0, none⟩ : Addr))]), (15, Sl.v r_330), (16, .int .i64 x_886), (17, .int .i64 r_0_1440), (20, .int .i64 (k_1673 + x_1948)), (54, .int .i64 (r_54.n : Int)), (55, .int .i64 x_886)] ⟨rfl, rfl, rfl, rfl, rfl, rfl, rfl, rfl, rfl, rfl, trivial⟩
                          have hA1956 := hA1955.keep [(8, Sl.v r_54), (9, Sl.v r_60), (10, .map r_93), (14, .func (.func 38) #[] #[.pointer (some (⟨B_102, 0, none⟩ : Addr))]), (15, Sl.v r_330), (16, .int .i64 x_886), (17, .int .i64 r_0_1440), (20, .int .i64 (k_1673 + x_1948)), (54, .int .i64 (r_54.n : Int)), (55, .int .i64 x_886)] ⟨rfl, rfl, rfl, rfl, rfl, rfl, rfl, rfl, rfl, rfl, trivial⟩
                          exact then_normal ⟨(k_1673 + x_1948, w1922), ⟨hA1956, rfl, ht1953.1⟩, ht1953.2⟩
                · have ht1840 := ht1836.2 (of_decide_eq_false hc)
                  clear hc
                  refine wp_exit ?_
                  refine then_exit ?_
                  refine then_exit ?_
                  refine block_hit ?_
                  have hA1958 := hA1838.keep [(8, Sl.v r_54), (9, Sl.v r_60), (10, .map r_93), (14, .func (.func 38) #[] #[.pointer (some (⟨B_102, 0, none⟩ : Addr))]), (15, Sl.v r_330), (54, .int .i64 (r_54.n : Int)), (55, .int .i64 x_886)] ⟨rfl, rfl, rfl, rfl, rfl, rfl, rfl, trivial⟩
                  refine block_normal ?_
                  refine then_normal ?_
                  refine wp_region_lit ?_
                  obtain ⟨hS1960, ht1961⟩ := ht1840
                  refine sq (opk_val hA1958 rfl (r_addI (hA1958.get rfl) rfl hS1960) fun a1959 hA1959 _ => ?_)
                  refine sq (opk_val hA1959 rfl (r_move (hA1959.get rfl)) fun a1962 hA1962 _ => ?_)
                  refine sq_end ?_
                  have hA1963 := hA1962.keep [(8, Sl.v r_54), (9, Sl.v r_60), (10, .map r_93), (14, .func (.func 38) #[] #[.pointer (some (⟨B_102, 0, none⟩ : Addr))]), (15, Sl.v r_330), (54, .int .i64 (r_54.n : Int)), (55, .int .i64 (x_886 + 1))] ⟨rfl, rfl, rfl, rfl, rfl, rfl, rfl, trivial⟩
                  have hA1964 := hA1963.keep [(8, Sl.v r_54), (9, Sl.v r_60), (10, .map r_93), (14, .func (.func 38) #[] #[.pointer (some (⟨B_102, 0, none⟩ : Addr))]), (15, Sl.v r_330), (54, .int .i64 (r_54.n : Int)), (55, .int .i64 (x_886 + 1))] ⟨rfl, rfl, rfl, rfl, rfl, rfl, rfl, trivial⟩
                  exact then_normal ⟨(x_886 + 1, w1674), ⟨hA1964, rfl, ht1961.1⟩, ht1961.2⟩
        · have ht1433 := ht1428.2 (of_decide_eq_false hc)
          clear hc
          refine wp_exit ?_
          refine then_exit ?_
          refine then_exit ?_
          refine block_hit ?_
          have hA1966 := hA1431.keep [(15, Sl.v r_330)] ⟨rfl, trivial⟩
          refine then_normal ?_
          refine wp_seq ?_
          refine wp_region_lit ?_
          refine sq (opk_val hA1966 rfl (r_move (hA1966.get rfl)) fun a1967 hA1967 _ => ?_)
          refine sq (opk_val hA1967 rfl (r_assign (hA1967.get rfl)) fun a1968 hA1968 _ => ?_)
          refine sq (opk_val hA1968 rfl (r_assign rfl) fun a1969 hA1969 _ => ?_)
          refine sq_end ?_
          have hA1970 := hA1969.keep [(6, Sl.v r_330), (7, .int .i64 0)] ⟨rfl, rfl, trivial⟩
          refine then_normal ?_
          refine wp_ret ?_
          exact res_all (vs := [Sl.v r_330, .int .i64 0]) rfl hA1970 ⟨res_of_tmp hA1970 rfl, res_of_tmp hA1970 rfl, trivial⟩ ht1433

/-- The condition of topiary/slots.Touched. -/
def slots_Touched.vc (o_1_Kind : Int) (o_1_Name : Str) (o_1_Text : Str) (o_1_Attrs : Sl) (o_1_Kids : Sl) (l_2 : Sl) (id_3 : Int) (R : Value → World → Prop) (w : World) : Prop :=
∀ (w5 : World) (B_4 : Nat), New w B_4 w5 → Chg [] w w5 →
CallK Try.prog 37 #[.agg #[.int .i64 o_1_Kind, .string (Bs o_1_Name), .string (Bs o_1_Text), Sl.v o_1_Attrs, Sl.v o_1_Kids]] w5 [B_4] (fun v w18 => ∃ (r_16 : Sl), v = Sl.v r_16 ∧
∃ p_44 : Addr, (((((¬ (id_3 < 0)) ∧ (¬ ((r_16.n : Int) ≤ id_3))) ∧ (¬ ((l_2.n : Int) ≤ id_3)))) → ((0 : Int) ≤ id_3 ∧ id_3 < (l_2.n : Int)) ∧  l_2.a = some p_44) ∧
∃ (x_51 : Bool), (((((¬ (id_3 < 0)) ∧ (¬ ((r_16.n : Int) ≤ id_3))) ∧ (¬ ((l_2.n : Int) ≤ id_3)))) → w18.cell? ((p_44.add (id_3.toNat * 6)).add 0) = some (.bool x_51)) ∧
(((((id_3 < 0) ∨ ((r_16.n : Int) ≤ id_3)) ∨ ((l_2.n : Int) ≤ id_3)) ∨ (x_51 = true)) →
R (.bool false) w18) ∧
(((((¬ (id_3 < 0)) ∧ (¬ ((r_16.n : Int) ≤ id_3))) ∧ (¬ ((l_2.n : Int) ≤ id_3))) ∧ (x_51 = false)) →
((0 : Int) ≤ id_3 ∧ id_3 < (l_2.n : Int)) ∧ ∃ p_62 : Addr, l_2.a = some p_62 ∧
∃ (x_68_Gone : Bool) (x_68_Text : Bool) (x_68_Set : Sl) (x_68_Unset : Sl) (x_68_Up : Int) (x_68_Kids : Sl), (Cells w18 (p_62.add (id_3.toNat * 6)) [.bool x_68_Gone, .bool x_68_Text, Sl.v x_68_Set, Sl.v x_68_Unset, .int .i64 x_68_Up, Sl.v x_68_Kids]) ∧
∀ (w87 : World) (B_71 : Nat), New w18 B_71 w87 → Chg [] w18 w87 →
∃ V_124 : Sl → World → Prop, (∀ r_123 : Sl, ∀ w' w'' : World, Ext w' w'' → V_124 r_123 w' → V_124 r_123 w'') ∧
(((((x_68_Text = false) ∧ (¬ (0 < (x_68_Set.n : Int)))) ∧ (¬ (0 < (x_68_Unset.n : Int))))) → ∀ w' : World, Ext w87 w' → Calls Try.prog 41 #[Sl.v r_16, .int .i64 id_3] w' (Ret fun v w'' => Ext w' w'' ∧ ∃ r_123 : Sl, v = Sl.v r_123 ∧ V_124 r_123 w'')) ∧
∃ (r_132 : Bool), (((((x_68_Text = false) ∧ (¬ (0 < (x_68_Set.n : Int)))) ∧ (¬ (0 < (x_68_Unset.n : Int))))) → ∀ r_123 : Sl, ∀ w' : World, Ext w87 w' → (((((x_68_Text = false) ∧ (¬ (0 < (x_68_Set.n : Int)))) ∧ (¬ (0 < (x_68_Unset.n : Int))))) → V_124 r_123 w') → Calls Try.prog 40 #[Sl.v x_68_Kids, Sl.v r_123] w' (Ret fun v w'' => Ext w' w'' ∧ v = .bool r_132)) ∧
∃ p_148 : Addr, ((((((x_68_Text = false) ∧ (¬ (0 < (x_68_Set.n : Int)))) ∧ (¬ (0 < (x_68_Unset.n : Int)))) ∧ (r_132 = true))) → ((0 : Int) ≤ id_3 ∧ id_3 < (r_16.n : Int)) ∧ r_16.a = some p_148) ∧
∃ (x_155 : Int), ((((((x_68_Text = false) ∧ (¬ (0 < (x_68_Set.n : Int)))) ∧ (¬ (0 < (x_68_Unset.n : Int)))) ∧ (r_132 = true))) → w87.cell? ((p_148.add (id_3.toNat * 10)).add 0) = some (.int .i64 x_155)) ∧
∀ (w165 : World), Chg [] w87 w165 →
R (.bool ((((x_68_Text || (decide (0 < (x_68_Set.n : Int)))) || (decide (0 < (x_68_Unset.n : Int)))) || (!r_132)) || (decide (x_68_Up ≠ x_155)))) w165))
set_option maxHeartbeats 1000000 in
set_option maxRecDepth 10000 in
theorem slots_Touched.ok (o_1_Kind : Int) (o_1_Name : Str) (o_1_Text : Str) (o_1_Attrs : Sl) (o_1_Kids : Sl) (l_2 : Sl) (id_3 : Int) {R : Value → World → Prop} {w : World} (ht0 : slots_Touched.vc o_1_Kind o_1_Name o_1_Text o_1_Attrs o_1_Kids l_2 id_3 R w) : Calls Try.prog 16 #[.agg #[.int .i64 o_1_Kind, .string (Bs o_1_Name), .string (Bs o_1_Text), Sl.v o_1_Attrs, Sl.v o_1_Kids], Sl.v l_2, .int .i64 id_3] w (Ret R) := by
  refine enter [.agg #[.int .i64 o_1_Kind, .string (Bs o_1_Name), .string (Bs o_1_Text), Sl.v o_1_Attrs, Sl.v o_1_Kids], Sl.v l_2, .int .i64 id_3] Try.func16 rfl Try.ntmps16 rfl ?_
  intro a0 hA0
  unfold slots_Touched.vc at ht0
  refine wp_seq ?_
  refine wp_region_lit ?_
  refine sq (opk_new (fun B => .pointer (some ⟨B, 0, none⟩)) hA0 rfl (r_box (cs := [.int .i64 o_1_Kind, .string (Bs o_1_Name), .string (Bs o_1_Text), Sl.v o_1_Attrs, Sl.v o_1_Kids]) (hA0.get rfl) rfl) fun a6 w5 B_4 hE7 hN8 hB9 hA6 _ => ?_)
  have hN10 : New w B_4 w5 := hN8
  have hC11 : Chg [] w w5 := hE7
  refine sq (opk_val hA6 rfl (r_assign rfl) fun a12 hA12 _ => ?_)
  refine sq_end ?_
  have hA13 := hA12.keep [(1, Sl.v l_2), (2, .int .i64 id_3), (3, .pointer (some (⟨B_4, 0, none⟩ : Addr)))] ⟨rfl, rfl, rfl, trivial⟩
  refine then_normal ?_
  refine wp_seq ?_
  refine wp_region_lit ?_
  refine sq (opk_val hA13 rfl (r_loadN (cs := [.int .i64 o_1_Kind, .string (Bs o_1_Name), .string (Bs o_1_Text), Sl.v o_1_Attrs, Sl.v o_1_Kids]) Try.underlying26 rfl ti_26 (hA13.get rfl) (hB9.part 0 _ rfl)) fun a14 hA14 _ => ?_)
  have ht15 := ht0 w5 B_4 hN10  hC11
  refine sq (opk_call hA14 rfl (r_call (args := #[.agg #[.int .i64 o_1_Kind, .string (Bs o_1_Name), .string (Bs o_1_Text), Sl.v o_1_Attrs, Sl.v o_1_Kids]]) Try.func37 (by decide) rfl (map_arr (ml_cons (hA14.get rfl) ml_nil)) rfl) ht15 fun a17 v23 w18 hA17 _ hn20 hz21 hK22 => ?_)
  obtain ⟨r_16, rfl, ht19⟩ := hK22
  have hB24 := hB9.kept hn20 (.head _)
  refine sq (opk_val hA17 rfl (r_assign (hA17.get rfl)) fun a25 hA25 _ => ?_)
  refine sq_end ?_
  have hA26 := hA25.keep [(1, Sl.v l_2), (2, .int .i64 id_3), (7, Sl.v r_16)] ⟨rfl, rfl, rfl, trivial⟩
  refine then_normal ?_
  refine wp_seq ?_
  refine wp_seq ?_
  refine wp_region_lit ?_
  refine sq (opk_val hA26 rfl (r_move (hA26.get rfl)) fun a27 hA27 _ => ?_)
  refine sq (opk_val hA27 rfl (r_lss (hA27.get rfl) rfl) fun a28 hA28 _ => ?_)
  refine sq (opk_val hA28 rfl (r_move (hA28.get rfl)) fun a29 hA29 _ => ?_)
  refine sq (opk_gval hA29 rfl rfl (g := true) (e := (decide (id_3 < 0))) rfl (fun hg => r_move (hA29.get rfl)) fun a30 hA30 _ => ?_)
  refine sq (opk_gval hA30 rfl rfl (g := true) (e := (decide (id_3 < 0))) rfl (fun hg => r_move (hA30.get rfl)) fun a31 hA31 _ => ?_)
  refine sq (opk_gval hA31 rfl rfl (g := true) (e := (decide (id_3 < 0))) rfl (fun hg => r_len (cv_get (hA31.get rfl) hg) Try.underlying79) fun a32 hA32 _ => ?_)
  refine sq (opk_gval hA32 rfl rfl (g := true) (e := (decide (id_3 < 0))) rfl (fun hg => r_geq (cv_get (hA32.get rfl) hg) (cv_get (hA32.get rfl) hg)) fun a33 hA33 _ => ?_)
  refine sq (opk_val hA33 rfl (r_pick_or (g := (true && ((decide (id_3 < 0)) == false))) (hA33.get rfl) (hA33.get rfl) (fun he => g_mkf rfl he)) fun a34 hA34 _ => ?_)
  refine sq (opk_val hA34 rfl (r_move (hA34.get rfl)) fun a35 hA35 _ => ?_)
  refine sq (opk_gval hA35 rfl rfl (g := true) (e := ((decide (id_3 < 0)) || (decide ((r_16.n : Int) ≤ id_3)))) rfl (fun hg => r_move (hA35.get rfl)) fun a36 hA36 _ => ?_)
  refine sq (opk_gval hA36 rfl rfl (g := true) (e := ((decide (id_3 < 0)) || (decide ((r_16.n : Int) ≤ id_3)))) rfl (fun hg => r_move (hA36.get rfl)) fun a37 hA37 _ => ?_)
  refine sq (opk_gval hA37 rfl rfl (g := true) (e := ((decide (id_3 < 0)) || (decide ((r_16.n : Int) ≤ id_3)))) rfl (fun hg => r_len (cv_get (hA37.get rfl) hg) Try.underlying33) fun a38 hA38 _ => ?_)
  refine sq (opk_gval hA38 rfl rfl (g := true) (e := ((decide (id_3 < 0)) || (decide ((r_16.n : Int) ≤ id_3)))) rfl (fun hg => r_geq (cv_get (hA38.get rfl) hg) (cv_get (hA38.get rfl) hg)) fun a39 hA39 _ => ?_)
  refine sq (opk_val hA39 rfl (r_pick_or (g := (true && (((decide (id_3 < 0)) || (decide ((r_16.n : Int) ≤ id_3))) == false))) (hA39.get rfl) (hA39.get rfl) (fun he => g_mkf rfl he)) fun a40 hA40 _ => ?_)
  refine sq (opk_val hA40 rfl (r_move (hA40.get rfl)) fun a41 hA41 _ => ?_)
  refine sq (opk_gval hA41 rfl rfl (g := true) (e := (((decide (id_3 < 0)) || (decide ((r_16.n : Int) ≤ id_3))) || (decide ((l_2.n : Int) ≤ id_3)))) rfl (fun hg => r_move (hA41.get rfl)) fun a42 hA42 _ => ?_)
  refine sq (opk_gval hA42 rfl rfl (g := true) (e := (((decide (id_3 < 0)) || (decide ((r_16.n : Int) ≤ id_3))) || (decide ((l_2.n : Int) ≤ id_3)))) rfl (fun hg => r_move (hA42.get rfl)) fun a43 hA43 _ => ?_)
  obtain ⟨p_44, hp46, ht47⟩ := ht19
  refine sq (opk_gval hA43 rfl rfl (g := true) (e := (((decide (id_3 < 0)) || (decide ((r_16.n : Int) ≤ id_3))) || (decide ((l_2.n : Int) ≤ id_3)))) rfl (fun hg => r_indexAddr (cv_get (hA43.get rfl) hg) (cv_get (hA43.get rfl) hg) Try.underlying33 ti_43 (hp46 ⟨⟨(of_decide_eq_false (b_or_f (b_or_f (g_f hg)).1).1), (of_decide_eq_false (b_or_f (b_or_f (g_f hg)).1).2)⟩, (of_decide_eq_false (b_or_f (g_f hg)).2)⟩).1 (hp46 ⟨⟨(of_decide_eq_false (b_or_f (b_or_f (g_f hg)).1).1), (of_decide_eq_false (b_or_f (b_or_f (g_f hg)).1).2)⟩, (of_decide_eq_false (b_or_f (g_f hg)).2)⟩).2) fun a48 hA48 _ => ?_)
  refine sq (opk_gval hA48 rfl rfl (g := true) (e := (((decide (id_3 < 0)) || (decide ((r_16.n : Int) ≤ id_3))) || (decide ((l_2.n : Int) ≤ id_3)))) rfl (fun hg => r_fieldAddr (cv_get (hA48.get rfl) hg) Try.underlying43 rfl ti_4 (by decide)) fun a49 hA49 _ => ?_)
  obtain ⟨x_51, hx52, ht53⟩ := ht47
  refine sq (opk_gval hA49 rfl rfl (g := true) (e := (((decide (id_3 < 0)) || (decide ((r_16.n : Int) ≤ id_3))) || (decide ((l_2.n : Int) ≤ id_3)))) rfl (fun hg => r_load1 Try.underlying4 rfl (cv_get (hA49.get rfl) hg) (hx52 ⟨⟨(of_decide_eq_false (b_or_f (b_or_f (g_f hg)).1).1), (of_decide_eq_false (b_or_f (b_or_f (g_f hg)).1).2)⟩, (of_decide_eq_false (b_or_f (g_f hg)).2)⟩)) fun a50 hA50 _ => ?_)
  refine sq (opk_val hA50 rfl (r_pick_or (g := (true && ((((decide (id_3 < 0)) || (decide ((r_16.n : Int) ≤ id_3))) || (decide ((l_2.n : Int) ≤ id_3))) == false))) (hA50.get rfl) (hA50.get rfl) (fun he => g_mkf rfl he)) fun a54 hA54 _ => ?_)
  refine sq_end ?_
  have hA55 := hA54.keep [(1, Sl.v l_2), (2, .int .i64 id_3), (7, Sl.v r_16), (31, .bool ((((decide (id_3 < 0)) || (decide ((r_16.n : Int) ≤ id_3))) || (decide ((l_2.n : Int) ≤ id_3))) || x_51))] ⟨rfl, rfl, rfl, rfl, trivial⟩
  refine then_normal ?_
  refine wp_cond_split (hA55.get rfl) (fun hc => ?_) (fun hc => ?_)
  · have ht56 := ht53.1 ((b_or_t hc).imp (fun h => ((b_or_t h).imp (fun h => ((b_or_t h).imp (fun h => (of_decide_eq_true h)) (fun h => (of_decide_eq_true h)))) (fun h => (of_decide_eq_true h)))) (fun h => h))
    clear hc
    refine wp_seq ?_
    refine wp_region_lit ?_
    refine sq (opk_val hA55 rfl (r_assign rfl) fun a58 hA58 _ => ?_)
    refine sq_end ?_
    have hA59 := hA58.keep [(6, .bool false)] ⟨rfl, trivial⟩
    refine then_normal ?_
    refine wp_ret ?_
    refine then_ret ?_
    exact res_all (vs := [.bool false]) rfl hA59 ⟨res_of_tmp hA59 rfl, trivial⟩ ht56
  · have ht57 := ht53.2 ⟨⟨⟨(of_decide_eq_false (b_or_f (b_or_f (b_or_f hc).1).1).1), (of_decide_eq_false (b_or_f (b_or_f (b_or_f hc).1).1).2)⟩, (of_decide_eq_false (b_or_f (b_or_f hc).1).2)⟩, (b_or_f hc).2⟩
    clear hc
    refine wp_skip ?_
    refine then_normal ?_
    refine wp_seq ?_
    refine wp_region_lit ?_
    refine sq (opk_val hA55 rfl (r_move (hA55.get rfl)) fun a60 hA60 _ => ?_)
    refine sq (opk_val hA60 rfl (r_move (hA60.get rfl)) fun a61 hA61 _ => ?_)
    obtain ⟨hb63, p_62, hp64, ht65⟩ := ht57
    refine sq (opk_val hA61 rfl (r_indexAddr (hA61.get rfl) (hA61.get rfl) Try.underlying33 ti_43 hb63 hp64) fun a66 hA66 _ => ?_)
    obtain ⟨x_68_Gone, x_68_Text, x_68_Set, x_68_Unset, x_68_Up, x_68_Kids, hx69, ht70⟩ := ht65
    refine sq (opk_val hA66 rfl (r_loadN Try.underlying43 rfl ti_43 (hA66.get rfl) hx69) fun a67 hA67 _ => ?_)
    refine sq (opk_new (fun B => .pointer (some ⟨B, 0, none⟩)) hA67 rfl (r_alloc (cs := [.bool false, .bool false, Sl.v Sl.nil, Sl.v Sl.nil, .int .i64 0, Sl.v Sl.nil]) ti_43 rfl) fun a73 w72 B_71 hE74 hN75 hB76 hA73 _ => ?_)
    have hN77 : New w18 B_71 w72 := hN75
    have hC78 : Chg [] w18 w72 := hE74
    refine sq (opk_store hA73 hB76 (r_store (vs := [.bool x_68_Gone, .bool x_68_Text, Sl.v x_68_Set, Sl.v x_68_Unset, .int .i64 x_68_Up, Sl.v x_68_Kids]) (hA73.get rfl) (hA73.get rfl) rfl ti_43 hB76 rfl (ones_all [.bool x_68_Gone, .bool x_68_Text, Sl.v x_68_Set, Sl.v x_68_Unset, .int .i64 x_68_Up, Sl.v x_68_Kids] rfl)) fun a80 w79 hS81 hB82 hA80 => ?_)
    have hB83 : Box w79 B_71 43 [.bool x_68_Gone, .bool x_68_Text, Sl.v x_68_Set, Sl.v x_68_Unset, .int .i64 x_68_Up, Sl.v x_68_Kids] := hB82
    have hC84 := hC78.storeNew hN77 hS81
    have hN85 := hN77.up hS81.size
    refine sq_end ?_
    have hA86 := hA80.keep [(2, .int .i64 id_3), (7, Sl.v r_16), (8, .pointer (some (⟨B_71, 0, none⟩ : Addr)))] ⟨rfl, rfl, rfl, trivial⟩
    refine then_normal ?_
    refine wp_seq ?_
    refine draw' (by kernel_rfl) fun w87 hE88 => ?_
    have hB89 := hB83.ext hE88
    have hC90 := hC84.more hE88
    have hN91 := hN85.up hE88.size
    have ht92 := ht70 w87 B_71 hN91  hC90
    obtain ⟨V_124, hst125, hc126, ht127⟩ := ht92
    obtain ⟨r_132, hc133, ht134⟩ := ht127
    obtain ⟨p_148, hp149, ht150⟩ := ht134
    obtain ⟨x_155, hx156, ht157⟩ := ht150
    refine par (D := [[], [0], [0, 1], [0, 1, 2], [0, 1, 2, 3], [0, 1, 2, 3, 4], [0, 1, 2, 3, 4, 5], [0, 1, 2, 3, 4, 5, 6], [0, 1, 2, 3, 4, 5, 6, 7], [0, 1, 2, 3, 4, 5, 6, 7, 8], [0, 1, 2, 3, 4, 5, 6, 7, 8, 9], [0, 1, 2, 3, 4, 5, 6, 7, 8, 9, 10], [0, 1, 2, 3, 4, 5, 6, 7, 8, 9, 10, 11], [0, 1, 2, 3, 4, 5, 6, 7, 8, 9, 10, 11, 12], [0, 1, 2, 3, 4, 5, 6, 7, 8, 9, 10, 11, 12, 13], [0, 1, 2, 3, 4, 5, 6, 7, 8, 9, 10, 11, 12, 13, 14], [0, 1, 2, 3, 4, 5, 6, 7, 8, 9, 10, 11, 12, 13, 14, 15], [0, 1, 2, 3, 4, 5, 6, 7, 8, 9, 10, 11, 12, 13, 14], [0, 1, 2, 3, 4, 5, 6, 7, 8, 9, 10, 11, 12, 13, 14], [0, 1, 2, 3, 4, 5, 6, 7, 8, 9, 10, 11, 12, 13, 14, 17, 18], [0, 1, 2, 3, 4, 5, 6, 7, 8, 9, 10, 11, 12, 13, 14, 15, 16, 17, 18, 19], [0, 1, 2, 3, 4, 5, 6, 7, 8, 9, 10, 11, 12, 13, 14, 15, 16, 17, 18, 19, 20], [0, 1, 2, 3, 4, 5, 6, 7, 8, 9, 10, 11, 12, 13, 14, 15, 16, 17, 18, 19, 20, 21], [0, 1, 2, 3, 4, 5, 6, 7, 8, 9, 10, 11, 12, 13, 14, 15, 16, 17, 18, 19, 20, 21, 22], [0, 1, 2, 3, 4, 5, 6, 7, 8, 9, 10, 11, 12, 13, 14, 15, 16, 17, 18, 19, 20, 21, 22, 23], [0, 1, 2, 3, 4, 5, 6, 7, 8, 9, 10, 11, 12, 13, 14, 15, 16, 17, 18, 19, 20, 21, 22, 23, 24], [0, 1, 2, 3, 4, 5, 6, 7, 8, 9, 10, 11, 12, 13, 14, 15, 16, 17, 18, 19, 20, 21, 22, 23], [0, 1, 2, 3, 4, 5, 6, 7, 8, 9, 10, 11, 12, 13, 14, 15, 16, 17, 18, 19, 20, 21, 22, 23], [0, 1, 2, 3, 4, 5, 6, 7, 8, 9, 10, 11, 12, 13, 14, 15, 16, 17, 18, 19, 20, 21, 22, 23, 26, 27], [0, 1, 2, 3, 4, 5, 6, 7, 8, 9, 10, 11, 12, 13, 14, 15, 16, 17, 18, 19, 20, 21, 22, 23, 26, 27, 28], [0, 1, 2, 3, 4, 5, 6, 7, 8, 9, 10, 11, 12, 13, 14, 15, 16, 17, 18, 19, 20, 21, 22, 23, 26, 27, 28, 29], [0, 1, 2, 3, 4, 5, 6, 7, 8, 9, 10, 11, 12, 13, 14, 15, 16, 17, 18, 19, 20, 21, 22, 23, 24, 25, 26, 27, 28, 29, 30], [0, 1, 2, 3, 4, 5, 6, 7, 8, 9, 10, 11, 12, 13, 14, 15, 16, 17, 18, 19, 20, 21, 22, 23, 24, 25, 26, 27, 28, 29, 30, 31], [0, 1, 2, 3, 4, 5, 6, 7, 8, 9, 10, 11, 12, 13, 14, 15, 16, 17, 18, 19, 20, 21, 22, 23, 24, 25, 26, 27, 28, 29, 30, 31, 32]]) (S := [0, 1, 2, 3, 4, 5, 6, 7, 8, 9, 10, 11, 12, 13, 14, 15, 16, 17, 18, 19, 20, 21, 22, 23, 24, 25, 26, 27, 28, 29, 30, 31, 32, 33]) (F := []) (V := VL [(0, fun v _ => v = .pointer (some (⟨B_71, 1, none⟩ : Addr))), (1, fun v _ => v = .bool x_68_Text), (2, fun v _ => v = .bool x_68_Text), (3, fun v _ => v = cV (true && (x_68_Text == false)) (.pointer (some (⟨B_71, 2, none⟩ : Addr)))), (4, fun v _ => v = cV (true && (x_68_Text == false)) (Sl.v x_68_Set)), (5, fun v _ => v = cV (true && (x_68_Text == false)) (.int .i64 (x_68_Set.n : Int))), (6, fun v _ => v = cV (true && (x_68_Text == false)) (.bool (decide (0 < (x_68_Set.n : Int))))), (7, fun v _ => v = .bool (x_68_Text || (decide (0 < (x_68_Set.n : Int))))), (8, fun v _ => v = .bool (x_68_Text || (decide (0 < (x_68_Set.n : Int))))), (9, fun v _ => v = cV (true && ((x_68_Text || (decide (0 < (x_68_Set.n : Int)))) == false)) (.pointer (some (⟨B_71, 3, none⟩ : Addr)))), (10, fun v _ => v = cV (true && ((x_68_Text || (decide (0 < (x_68_Set.n : Int)))) == false)) (Sl.v x_68_Unset)), (11, fun v _ => v = cV (true && ((x_68_Text || (decide (0 < (x_68_Set.n : Int)))) == false)) (.int .i64 (x_68_Unset.n : Int))), (12, fun v _ => v = cV (true && ((x_68_Text || (decide (0 < (x_68_Set.n : Int)))) == false)) (.bool (decide (0 < (x_68_Unset.n : Int))))), (13, fun v _ => v = .bool ((x_68_Text || (decide (0 < (x_68_Set.n : Int)))) || (decide (0 < (x_68_Unset.n : Int))))), (14, fun v _ => v = .bool ((x_68_Text || (decide (0 < (x_68_Set.n : Int)))) || (decide (0 < (x_68_Unset.n : Int))))), (15, fun v _ => v = cV (true && (((x_68_Text || (decide (0 < (x_68_Set.n : Int)))) || (decide (0 < (x_68_Unset.n : Int)))) == false)) (.pointer (some (⟨B_71, 5, none⟩ : Addr)))), (16, fun v _ => v = cV (true && (((x_68_Text || (decide (0 < (x_68_Set.n : Int)))) || (decide (0 < (x_68_Unset.n : Int)))) == false)) (Sl.v x_68_Kids)), (17, fun v _ => v = cV (true && (((x_68_Text || (decide (0 < (x_68_Set.n : Int)))) || (decide (0 < (x_68_Unset.n : Int)))) == false)) (Sl.v r_16)), (18, fun v _ => v = cV (true && (((x_68_Text || (decide (0 < (x_68_Set.n : Int)))) || (decide (0 < (x_68_Unset.n : Int)))) == false)) (.int .i64 id_3)), (19, fun v w' => ∃ r_123 : Sl, (((((x_68_Text = false) ∧ (¬ (0 < (x_68_Set.n : Int)))) ∧ (¬ (0 < (x_68_Unset.n : Int))))) → V_124 r_123 w') ∧ v = cV (true && (((x_68_Text || (decide (0 < (x_68_Set.n : Int)))) || (decide (0 < (x_68_Unset.n : Int)))) == false)) (Sl.v r_123)), (20, fun v _ => v = cV (true && (((x_68_Text || (decide (0 < (x_68_Set.n : Int)))) || (decide (0 < (x_68_Unset.n : Int)))) == false)) (.bool r_132)), (21, fun v _ => v = cV (true && (((x_68_Text || (decide (0 < (x_68_Set.n : Int)))) || (decide (0 < (x_68_Unset.n : Int)))) == false)) (.bool (!r_132))), (22, fun v _ => v = .bool (((x_68_Text || (decide (0 < (x_68_Set.n : Int)))) || (decide (0 < (x_68_Unset.n : Int)))) || (!r_132))), (23, fun v _ => v = .bool (((x_68_Text || (decide (0 < (x_68_Set.n : Int)))) || (decide (0 < (x_68_Unset.n : Int)))) || (!r_132))), (24, fun v _ => v = cV (true && ((((x_68_Text || (decide (0 < (x_68_Set.n : Int)))) || (decide (0 < (x_68_Unset.n : Int)))) || (!r_132)) == false)) (.pointer (some (⟨B_71, 4, none⟩ : Addr)))), (25, fun v _ => v = cV (true && ((((x_68_Text || (decide (0 < (x_68_Set.n : Int)))) || (decide (0 < (x_68_Unset.n : Int)))) || (!r_132)) == false)) (.int .i64 x_68_Up)), (26, fun v _ => v = cV (true && ((((x_68_Text || (decide (0 < (x_68_Set.n : Int)))) || (decide (0 < (x_68_Unset.n : Int)))) || (!r_132)) == false)) (Sl.v r_16)), (27, fun v _ => v = cV (true && ((((x_68_Text || (decide (0 < (x_68_Set.n : Int)))) || (decide (0 < (x_68_Unset.n : Int)))) || (!r_132)) == false)) (.int .i64 id_3)), (28, fun v _ => v = cV (true && ((((x_68_Text || (decide (0 < (x_68_Set.n : Int)))) || (decide (0 < (x_68_Unset.n : Int)))) || (!r_132)) == false)) (.pointer (some (p_148.add (id_3.toNat * 10))))), (29, fun v _ => v = cV (true && ((((x_68_Text || (decide (0 < (x_68_Set.n : Int)))) || (decide (0 < (x_68_Unset.n : Int)))) || (!r_132)) == false)) (.pointer (some ((p_148.add (id_3.toNat * 10)).add 0)))), (30, fun v _ => v = cV (true && ((((x_68_Text || (decide (0 < (x_68_Set.n : Int)))) || (decide (0 < (x_68_Unset.n : Int)))) || (!r_132)) == false)) (.int .i64 x_155)), (31, fun v _ => v = cV (true && ((((x_68_Text || (decide (0 < (x_68_Set.n : Int)))) || (decide (0 < (x_68_Unset.n : Int)))) || (!r_132)) == false)) (.bool (decide (x_68_Up ≠ x_155)))), (32, fun v _ => v = .bool ((((x_68_Text || (decide (0 < (x_68_Set.n : Int)))) || (decide (0 < (x_68_Unset.n : Int)))) || (!r_132)) || (decide (x_68_Up ≠ x_155)))), (33, fun v _ => v = .bool ((((x_68_Text || (decide (0 < (x_68_Set.n : Int)))) || (decide (0 < (x_68_Unset.n : Int)))) || (!r_132)) || (decide (x_68_Up ≠ x_155))))]) hA86 (by kernel_rfl) ⟨fun _ _ _ _ h => by first | exact h | (change _ = _ at h; change _ = _; exact h), fun _ _ _ _ h => by first | exact h | (change _ = _ at h; change _ = _; exact h), fun _ _ _ _ h => by first | exact h | (change _ = _ at h; change _ = _; exact h), fun _ _ _ _ h => by first | exact h | (change _ = _ at h; change _ = _; exact h), fun _ _ _ _ h => by first | exact h | (change _ = _ at h; change _ = _; exact h), fun _ _ _ _ h => by first | exact h | (change _ = _ at h; change _ = _; exact h), fun _ _ _ _ h => by first | exact h | (change _ = _ at h; change _ = _; exact h), fun _ _ _ _ h => by first | exact h | (change _ = _ at h; change _ = _; exact h), fun _ _ _ _ h => by first | exact h | (change _ = _ at h; change _ = _; exact h), fun _ _ _ _ h => by first | exact h | (change _ = _ at h; change _ = _; exact h), fun _ _ _ _ h => by first | exact h | (change _ = _ at h; change _ = _; exact h), fun _ _ _ _ h => by first | exact h | (change _ = _ at h; change _ = _; exact h), fun _ _ _ _ h => by first | exact h | (change _ = _ at h; change _ = _; exact h), fun _ _ _ _ h => by first | exact h | (change _ = _ at h; change _ = _; exact h), fun _ _ _ _ h => by first | exact h | (change _ = _ at h; change _ = _; exact h), fun _ _ _ _ h => by first | exact h | (change _ = _ at h; change _ = _; exact h), fun _ _ _ _ h => by first | exact h | (change _ = _ at h; change _ = _; exact h), fun _ _ _ _ h => by first | exact h | (change _ = _ at h; change _ = _; exact h), fun _ _ _ _ h => by first | exact h | (change _ = _ at h; change _ = _; exact h), fun _ _ _ hE ⟨r_123, h0_, e⟩ => ⟨r_123, (fun hp => hst125 r_123 _ _ hE (h0_ hp)), e⟩, fun _ _ _ _ h => by first | exact h | (change _ = _ at h; change _ = _; exact h), fun _ _ _ _ h => by first | exact h | (change _ = _ at h; change _ = _; exact h), fun _ _ _ _ h => by first | exact h | (change _ = _ at h; change _ = _; exact h), fun _ _ _ _ h => by first | exact h | (change _ = _ at h; change _ = _; exact h), fun _ _ _ _ h => by first | exact h | (change _ = _ at h; change _ = _; exact h), fun _ _ _ _ h => by first | exact h | (change _ = _ at h; change _ = _; exact h), fun _ _ _ _ h => by first | exact h | (change _ = _ at h; change _ = _; exact h), fun _ _ _ _ h => by first | exact h | (change _ = _ at h; change _ = _; exact h), fun _ _ _ _ h => by first | exact h | (change _ = _ at h; change _ = _; exact h), fun _ _ _ _ h => by first | exact h | (change _ = _ at h; change _ = _; exact h), fun _ _ _ _ h => by first | exact h | (change _ = _ at h; change _ = _; exact h), fun _ _ _ _ h => by first | exact h | (change _ = _ at h; change _ = _; exact h), fun _ _ _ _ h => by first | exact h | (change _ = _ at h; change _ = _; exact h), fun _ _ _ _ h => by first | exact h | (change _ = _ at h; change _ = _; exact h), trivial⟩ ⟨?_, ?_, ?_, ?_, ?_, ?_, ?_, ?_, ?_, ?_, ?_, ?_, ?_, ?_, ?_, ?_, ?_, ?_, ?_, ?_, ?_, ?_, ?_, ?_, ?_, ?_, ?_, ?_, ?_, ?_, ?_, ?_, ?_, ?_, trivial⟩ ?_
    · intro a w hT
      have hAp := hT.ag hA86 [(8, .pointer (some (⟨B_71, 0, none⟩ : Addr)))] ⟨rfl, trivial⟩ (by kernel_rfl)
      exact opk_val hAp rfl (r_fieldAddr (hAp.get rfl) Try.underlying43 rfl ti_4 (by decide)) fun _ _ e => ⟨_, e, Chg.refl _ _, fun _ => Eq.refl _⟩
    · intro a w hT
      have hAp := hT.ag hA86 [] trivial (by kernel_rfl)
      have e93 : a.tmps.getD 36 undef = .pointer (some (⟨B_71, 1, none⟩ : Addr)) := hT.vals 0 rfl 36 rfl
      have hAp := hAp.add e93
      exact opk_val hAp rfl (r_load1 Try.underlying4 rfl (hAp.get rfl) ((hB89.ext hT.chg).cell 1 _ rfl)) fun _ _ e => ⟨_, e, Chg.refl _ _, fun _ => Eq.refl _⟩
    · intro a w hT
      have hAp := hT.ag hA86 [] trivial (by kernel_rfl)
      have e94 : a.tmps.getD 37 undef = .bool x_68_Text := hT.vals 1 rfl 37 rfl
      have hAp := hAp.add e94
      exact opk_val hAp rfl (r_move (hAp.get rfl)) fun _ _ e => ⟨_, e, Chg.refl _ _, fun _ => Eq.refl _⟩
    · intro a w hT
      have hAp := hT.ag hA86 [(8, .pointer (some (⟨B_71, 0, none⟩ : Addr)))] ⟨rfl, trivial⟩ (by kernel_rfl)
      have e95 : a.tmps.getD 38 undef = .bool x_68_Text := hT.vals 2 rfl 38 rfl
      have hAp := hAp.add e95
      exact opk_gval hAp rfl rfl (g := true) (e := x_68_Text) rfl (fun hg => r_fieldAddr (hAp.get rfl) Try.underlying43 rfl ti_23 (by decide)) fun _ _ e => ⟨_, e, Chg.refl _ _, fun _ => Eq.refl _⟩
    · intro a w hT
      have hAp := hT.ag hA86 [] trivial (by kernel_rfl)
      have e96 : a.tmps.getD 38 undef = .bool x_68_Text := hT.vals 2 rfl 38 rfl
      have hAp := hAp.add e96
      have e97 : a.tmps.getD 39 undef = cV (true && (x_68_Text == false)) (.pointer (some (⟨B_71, 2, none⟩ : Addr))) := hT.vals 3 rfl 39 rfl
      have hAp := hAp.add e97
      exact opk_gval hAp rfl rfl (g := true) (e := x_68_Text) rfl (fun hg => r_load1 Try.underlying23 rfl (cv_get (hAp.get rfl) hg) ((hB89.ext hT.chg).cell 2 _ rfl)) fun _ _ e => ⟨_, e, Chg.refl _ _, fun _ => Eq.refl _⟩
    · intro a w hT
      have hAp := hT.ag hA86 [] trivial (by kernel_rfl)
      have e98 : a.tmps.getD 38 undef = .bool x_68_Text := hT.vals 2 rfl 38 rfl
      have hAp := hAp.add e98
      have e99 : a.tmps.getD 40 undef = cV (true && (x_68_Text == false)) (Sl.v x_68_Set) := hT.vals 4 rfl 40 rfl
      have hAp := hAp.add e99
      exact opk_gval hAp rfl rfl (g := true) (e := x_68_Text) rfl (fun hg => r_len (cv_get (hAp.get rfl) hg) Try.underlying23) fun _ _ e => ⟨_, e, Chg.refl _ _, fun _ => Eq.refl _⟩
    · intro a w hT
      have hAp := hT.ag hA86 [] trivial (by kernel_rfl)
      have e100 : a.tmps.getD 38 undef = .bool x_68_Text := hT.vals 2 rfl 38 rfl
      have hAp := hAp.add e100
      have e101 : a.tmps.getD 41 undef = cV (true && (x_68_Text == false)) (.int .i64 (x_68_Set.n : Int)) := hT.vals 5 rfl 41 rfl
      have hAp := hAp.add e101
      exact opk_gval hAp rfl rfl (g := true) (e := x_68_Text) rfl (fun hg => r_gtr (cv_get (hAp.get rfl) hg) rfl) fun _ _ e => ⟨_, e, Chg.refl _ _, fun _ => Eq.refl _⟩
    · intro a w hT
      have hAp := hT.ag hA86 [] trivial (by kernel_rfl)
      have e102 : a.tmps.getD 38 undef = .bool x_68_Text := hT.vals 2 rfl 38 rfl
      have hAp := hAp.add e102
      have e103 : a.tmps.getD 42 undef = cV (true && (x_68_Text == false)) (.bool (decide (0 < (x_68_Set.n : Int)))) := hT.vals 6 rfl 42 rfl
      have hAp := hAp.add e103
      exact opk_val hAp rfl (r_pick_or (g := (true && (x_68_Text == false))) (hAp.get rfl) (hAp.get rfl) (fun he => g_mkf rfl he)) fun _ _ e => ⟨_, e, Chg.refl _ _, fun _ => Eq.refl _⟩
    · intro a w hT
      have hAp := hT.ag hA86 [] trivial (by kernel_rfl)
      have e104 : a.tmps.getD 43 undef = .bool (x_68_Text || (decide (0 < (x_68_Set.n : Int)))) := hT.vals 7 rfl 43 rfl
      have hAp := hAp.add e104
      exact opk_val hAp rfl (r_move (hAp.get rfl)) fun _ _ e => ⟨_, e, Chg.refl _ _, fun _ => Eq.refl _⟩
    · intro a w hT
      have hAp := hT.ag hA86 [(8, .pointer (some (⟨B_71, 0, none⟩ : Addr)))] ⟨rfl, trivial⟩ (by kernel_rfl)
      have e105 : a.tmps.getD 44 undef = .bool (x_68_Text || (decide (0 < (x_68_Set.n : Int)))) := hT.vals 8 rfl 44 rfl
      have hAp := hAp.add e105
      exact opk_gval hAp rfl rfl (g := true) (e := (x_68_Text || (decide (0 < (x_68_Set.n : Int))))) rfl (fun hg => r_fieldAddr (hAp.get rfl) Try.underlying43 rfl ti_41 (by decide)) fun _ _ e => ⟨_, e, Chg.refl _ _, fun _ => Eq.refl _⟩
    · intro a w hT
      have hAp := hT.ag hA86 [] trivial (by kernel_rfl)
      have e106 : a.tmps.getD 44 undef = .bool (x_68_Text || (decide (0 < (x_68_Set.n : Int)))) := hT.vals 8 rfl 44 rfl
      have hAp := hAp.add e106
      have e107 : a.tmps.getD 45 undef = cV (true && ((x_68_Text || (decide (0 < (x_68_Set.n : Int)))) == false)) (.pointer (some (⟨B_71, 3, none⟩ : Addr))) := hT.vals 9 rfl 45 rfl
      have hAp := hAp.add e107
      exact opk_gval hAp rfl rfl (g := true) (e := (x_68_Text || (decide (0 < (x_68_Set.n : Int))))) rfl (fun hg => r_load1 Try.underlying41 rfl (cv_get (hAp.get rfl) hg) ((hB89.ext hT.chg).cell 3 _ rfl)) fun _ _ e => ⟨_, e, Chg.refl _ _, fun _ => Eq.refl _⟩
    · intro a w hT
      have hAp := hT.ag hA86 [] trivial (by kernel_rfl)
      have e108 : a.tmps.getD 44 undef = .bool (x_68_Text || (decide (0 < (x_68_Set.n : Int)))) := hT.vals 8 rfl 44 rfl
      have hAp := hAp.add e108
      have e109 : a.tmps.getD 46 undef = cV (true && ((x_68_Text || (decide (0 < (x_68_Set.n : Int)))) == false)) (Sl.v x_68_Unset) := hT.vals 10 rfl 46 rfl
      have hAp := hAp.add e109
      exact opk_gval hAp rfl rfl (g := true) (e := (x_68_Text || (decide (0 < (x_68_Set.n : Int))))) rfl (fun hg => r_len (cv_get (hAp.get rfl) hg) Try.underlying41) fun _ _ e => ⟨_, e, Chg.refl _ _, fun _ => Eq.refl _⟩
    · intro a w hT
      have hAp := hT.ag hA86 [] trivial (by kernel_rfl)
      have e110 : a.tmps.getD 44 undef = .bool (x_68_Text || (decide (0 < (x_68_Set.n : Int)))) := hT.vals 8 rfl 44 rfl
      have hAp := hAp.add e110
      have e111 : a.tmps.getD 47 undef = cV (true && ((x_68_Text || (decide (0 < (x_68_Set.n : Int)))) == false)) (.int .i64 (x_68_Unset.n : Int)) := hT.vals 11 rfl 47 rfl
      have hAp := hAp.add e111
      exact opk_gval hAp rfl rfl (g := true) (e := (x_68_Text || (decide (0 < (x_68_Set.n : Int))))) rfl (fun hg => r_gtr (cv_get (hAp.get rfl) hg) rfl) fun _ _ e => ⟨_, e, Chg.refl _ _, fun _ => Eq.refl _⟩
    · intro a w hT
      have hAp := hT.ag hA86 [] trivial (by kernel_rfl)
      have e112 : a.tmps.getD 44 undef = .bool (x_68_Text || (decide (0 < (x_68_Set.n : Int)))) := hT.vals 8 rfl 44 rfl
      have hAp := hAp.add e112
      have e113 : a.tmps.getD 48 undef = cV (true && ((x_68_Text || (decide (0 < (x_68_Set.n : Int)))) == false)) (.bool (decide (0 < (x_68_Unset.n : Int)))) := hT.vals 12 rfl 48 rfl
      have hAp := hAp.add e113
      exact opk_val hAp rfl (r_pick_or (g := (true && ((x_68_Text || (decide (0 < (x_68_Set.n : Int)))) == false))) (hAp.get rfl) (hAp.get rfl) (fun he => g_mkf rfl he)) fun _ _ e => ⟨_, e, Chg.refl _ _, fun _ => Eq.refl _⟩
    · intro a w hT
      have hAp := hT.ag hA86 [] trivial (by kernel_rfl)
      have e114 : a.tmps.getD 49 undef = .bool ((x_68_Text || (decide (0 < (x_68_Set.n : Int)))) || (decide (0 < (x_68_Unset.n : Int)))) := hT.vals 13 rfl 49 rfl
      have hAp := hAp.add e114
      exact opk_val hAp rfl (r_move (hAp.get rfl)) fun _ _ e => ⟨_, e, Chg.refl _ _, fun _ => Eq.refl _⟩
    · intro a w hT
      have hAp := hT.ag hA86 [(8, .pointer (some (⟨B_71, 0, none⟩ : Addr)))] ⟨rfl, trivial⟩ (by kernel_rfl)
      have e115 : a.tmps.getD 50 undef = .bool ((x_68_Text || (decide (0 < (x_68_Set.n : Int)))) || (decide (0 < (x_68_Unset.n : Int)))) := hT.vals 14 rfl 50 rfl
      have hAp := hAp.add e115
      exact opk_gval hAp rfl rfl (g := true) (e := ((x_68_Text || (decide (0 < (x_68_Set.n : Int)))) || (decide (0 < (x_68_Unset.n : Int))))) rfl (fun hg => r_fieldAddr (hAp.get rfl) Try.underlying43 rfl ti_22 (by decide)) fun _ _ e => ⟨_, e, Chg.refl _ _, fun _ => Eq.refl _⟩
    · intro a w hT
      have hAp := hT.ag hA86 [] trivial (by kernel_rfl)
      have e116 : a.tmps.getD 50 undef = .bool ((x_68_Text || (decide (0 < (x_68_Set.n : Int)))) || (decide (0 < (x_68_Unset.n : Int)))) := hT.vals 14 rfl 50 rfl
      have hAp := hAp.add e116
      have e117 : a.tmps.getD 51 undef = cV (true && (((x_68_Text || (decide (0 < (x_68_Set.n : Int)))) || (decide (0 < (x_68_Unset.n : Int)))) == false)) (.pointer (some (⟨B_71, 5, none⟩ : Addr))) := hT.vals 15 rfl 51 rfl
      have hAp := hAp.add e117
      exact opk_gval hAp rfl rfl (g := true) (e := ((x_68_Text || (decide (0 < (x_68_Set.n : Int)))) || (decide (0 < (x_68_Unset.n : Int))))) rfl (fun hg => r_load1 Try.underlying22 rfl (cv_get (hAp.get rfl) hg) ((hB89.ext hT.chg).cell 5 _ rfl)) fun _ _ e => ⟨_, e, Chg.refl _ _, fun _ => Eq.refl _⟩
    · intro a w hT
      have hAp := hT.ag hA86 [(7, Sl.v r_16)] ⟨rfl, trivial⟩ (by kernel_rfl)
      have e118 : a.tmps.getD 50 undef = .bool ((x_68_Text || (decide (0 < (x_68_Set.n : Int)))) || (decide (0 < (x_68_Unset.n : Int)))) := hT.vals 14 rfl 50 rfl
      have hAp := hAp.add e118
      exact opk_gval hAp rfl rfl (g := true) (e := ((x_68_Text || (decide (0 < (x_68_Set.n : Int)))) || (decide (0 < (x_68_Unset.n : Int))))) rfl (fun hg => r_move (hAp.get rfl)) fun _ _ e => ⟨_, e, Chg.refl _ _, fun _ => Eq.refl _⟩
    · intro a w hT
      have hAp := hT.ag hA86 [(2, .int .i64 id_3)] ⟨rfl, trivial⟩ (by kernel_rfl)
      have e119 : a.tmps.getD 50 undef = .bool ((x_68_Text || (decide (0 < (x_68_Set.n : Int)))) || (decide (0 < (x_68_Unset.n : Int)))) := hT.vals 14 rfl 50 rfl
      have hAp := hAp.add e119
      exact opk_gval hAp rfl rfl (g := true) (e := ((x_68_Text || (decide (0 < (x_68_Set.n : Int)))) || (decide (0 < (x_68_Unset.n : Int))))) rfl (fun hg => r_move (hAp.get rfl)) fun _ _ e => ⟨_, e, Chg.refl _ _, fun _ => Eq.refl _⟩
    · intro a w hT
      have hAp := hT.ag hA86 [] trivial (by kernel_rfl)
      have e120 : a.tmps.getD 50 undef = .bool ((x_68_Text || (decide (0 < (x_68_Set.n : Int)))) || (decide (0 < (x_68_Unset.n : Int)))) := hT.vals 14 rfl 50 rfl
      have hAp := hAp.add e120
      have e121 : a.tmps.getD 53 undef = cV (true && (((x_68_Text || (decide (0 < (x_68_Set.n : Int)))) || (decide (0 < (x_68_Unset.n : Int)))) == false)) (Sl.v r_16) := hT.vals 17 rfl 53 rfl
      have hAp := hAp.add e121
      have e122 : a.tmps.getD 54 undef = cV (true && (((x_68_Text || (decide (0 < (x_68_Set.n : Int)))) || (decide (0 < (x_68_Unset.n : Int)))) == false)) (.int .i64 id_3) := hT.vals 18 rfl 54 rfl
      have hAp := hAp.add e122
      exact opk_gcallM hAp rfl rfl (g := true) (e := ((x_68_Text || (decide (0 < (x_68_Set.n : Int)))) || (decide (0 < (x_68_Unset.n : Int))))) rfl (fun hg => r_call (args := #[Sl.v r_16, .int .i64 id_3]) Try.func41 (by decide) rfl (map_arr (ml_cons (cv_get (hAp.get rfl) hg) (ml_cons (cv_get (hAp.get rfl) hg) ml_nil))) rfl) (fun hg => hc126 ⟨⟨(b_or_f (b_or_f (g_f hg)).1).1, (of_decide_eq_false (b_or_f (b_or_f (g_f hg)).1).2)⟩, (of_decide_eq_false (b_or_f (g_f hg)).2)⟩ w hT.chg) fun _ _ _ _ e hE hR => ⟨_, e, hE, fun _ => by obtain ⟨r_123, hx, hV⟩ := cvty (α := Sl) (fun s => Sl.v s) (fun s w => V_124 s w) (fun hg => by obtain ⟨r_123, h1, h2⟩ := hR hg; exact ⟨r_123, h1, h2⟩); exact ⟨r_123, fun hp => hV (g_mkf rfl (b_or_mkf ⟨(b_or_mkf ⟨hp.1.1, (decide_eq_false hp.1.2)⟩), (decide_eq_false hp.2)⟩)), hx⟩⟩
    · intro a w hT
      have hAp := hT.ag hA86 [] trivial (by kernel_rfl)
      have e128 : a.tmps.getD 50 undef = .bool ((x_68_Text || (decide (0 < (x_68_Set.n : Int)))) || (decide (0 < (x_68_Unset.n : Int)))) := hT.vals 14 rfl 50 rfl
      have hAp := hAp.add e128
      have e129 : a.tmps.getD 52 undef = cV (true && (((x_68_Text || (decide (0 < (x_68_Set.n : Int)))) || (decide (0 < (x_68_Unset.n : Int)))) == false)) (Sl.v x_68_Kids) := hT.vals 16 rfl 52 rfl
      have hAp := hAp.add e129
      obtain ⟨r_123, hf131, e130⟩ := hT.vals 19 rfl 55 rfl
      have hAp := hAp.add e130
      exact opk_gcall hAp rfl rfl (g := true) (e := ((x_68_Text || (decide (0 < (x_68_Set.n : Int)))) || (decide (0 < (x_68_Unset.n : Int))))) rfl (fun hg => r_call (args := #[Sl.v x_68_Kids, Sl.v r_123]) Try.func40 (by decide) rfl (map_arr (ml_cons (cv_get (hAp.get rfl) hg) (ml_cons (cv_get (hAp.get rfl) hg) ml_nil))) rfl) (fun hg => hc133 ⟨⟨(b_or_f (b_or_f (g_f hg)).1).1, (of_decide_eq_false (b_or_f (b_or_f (g_f hg)).1).2)⟩, (of_decide_eq_false (b_or_f (g_f hg)).2)⟩ r_123 w hT.chg hf131) fun _ _ _ e hE => ⟨_, e, hE, fun _ => Eq.refl _⟩
    · intro a w hT
      have hAp := hT.ag hA86 [] trivial (by kernel_rfl)
      have e135 : a.tmps.getD 50 undef = .bool ((x_68_Text || (decide (0 < (x_68_Set.n : Int)))) || (decide (0 < (x_68_Unset.n : Int)))) := hT.vals 14 rfl 50 rfl
      have hAp := hAp.add e135
      have e136 : a.tmps.getD 56 undef = cV (true && (((x_68_Text || (decide (0 < (x_68_Set.n : Int)))) || (decide (0 < (x_68_Unset.n : Int)))) == false)) (.bool r_132) := hT.vals 20 rfl 56 rfl
      have hAp := hAp.add e136
      exact opk_gval hAp rfl rfl (g := true) (e := ((x_68_Text || (decide (0 < (x_68_Set.n : Int)))) || (decide (0 < (x_68_Unset.n : Int))))) rfl (fun hg => r_not (cv_get (hAp.get rfl) hg)) fun _ _ e => ⟨_, e, Chg.refl _ _, fun _ => Eq.refl _⟩
    · intro a w hT
      have hAp := hT.ag hA86 [] trivial (by kernel_rfl)
      have e137 : a.tmps.getD 50 undef = .bool ((x_68_Text || (decide (0 < (x_68_Set.n : Int)))) || (decide (0 < (x_68_Unset.n : Int)))) := hT.vals 14 rfl 50 rfl
      have hAp := hAp.add e137
      have e138 : a.tmps.getD 57 undef = cV (true && (((x_68_Text || (decide (0 < (x_68_Set.n : Int)))) || (decide (0 < (x_68_Unset.n : Int)))) == false)) (.bool (!r_132)) := hT.vals 21 rfl 57 rfl
      have hAp := hAp.add e138
      exact opk_val hAp rfl (r_pick_or (g := (true && (((x_68_Text || (decide (0 < (x_68_Set.n : Int)))) || (decide (0 < (x_68_Unset.n : Int)))) == false))) (hAp.get rfl) (hAp.get rfl) (fun he => g_mkf rfl he)) fun _ _ e => ⟨_, e, Chg.refl _ _, fun _ => Eq.refl _⟩
    · intro a w hT
      have hAp := hT.ag hA86 [] trivial (by kernel_rfl)
      have e139 : a.tmps.getD 58 undef = .bool (((x_68_Text || (decide (0 < (x_68_Set.n : Int)))) || (decide (0 < (x_68_Unset.n : Int)))) || (!r_132)) := hT.vals 22 rfl 58 rfl
      have hAp := hAp.add e139
      exact opk_val hAp rfl (r_move (hAp.get rfl)) fun _ _ e => ⟨_, e, Chg.refl _ _, fun _ => Eq.refl _⟩
    · intro a w hT
      have hAp := hT.ag hA86 [(8, .pointer (some (⟨B_71, 0, none⟩ : Addr)))] ⟨rfl, trivial⟩ (by kernel_rfl)
      have e140 : a.tmps.getD 59 undef = .bool (((x_68_Text || (decide (0 < (x_68_Set.n : Int)))) || (decide (0 < (x_68_Unset.n : Int)))) || (!r_132)) := hT.vals 23 rfl 59 rfl
      have hAp := hAp.add e140
      exact opk_gval hAp rfl rfl (g := true) (e := (((x_68_Text || (decide (0 < (x_68_Set.n : Int)))) || (decide (0 < (x_68_Unset.n : Int)))) || (!r_132))) rfl (fun hg => r_fieldAddr (hAp.get rfl) Try.underlying43 rfl ti_3 (by decide)) fun _ _ e => ⟨_, e, Chg.refl _ _, fun _ => Eq.refl _⟩
    · intro a w hT
      have hAp := hT.ag hA86 [] trivial (by kernel_rfl)
      have e141 : a.tmps.getD 59 undef = .bool (((x_68_Text || (decide (0 < (x_68_Set.n : Int)))) || (decide (0 < (x_68_Unset.n : Int)))) || (!r_132)) := hT.vals 23 rfl 59 rfl
      have hAp := hAp.add e141
      have e142 : a.tmps.getD 60 undef = cV (true && ((((x_68_Text || (decide (0 < (x_68_Set.n : Int)))) || (decide (0 < (x_68_Unset.n : Int)))) || (!r_132)) == false)) (.pointer (some (⟨B_71, 4, none⟩ : Addr))) := hT.vals 24 rfl 60 rfl
      have hAp := hAp.add e142
      exact opk_gval hAp rfl rfl (g := true) (e := (((x_68_Text || (decide (0 < (x_68_Set.n : Int)))) || (decide (0 < (x_68_Unset.n : Int)))) || (!r_132))) rfl (fun hg => r_load1 Try.underlying3 rfl (cv_get (hAp.get rfl) hg) ((hB89.ext hT.chg).cell 4 _ rfl)) fun _ _ e => ⟨_, e, Chg.refl _ _, fun _ => Eq.refl _⟩
    · intro a w hT
      have hAp := hT.ag hA86 [(7, Sl.v r_16)] ⟨rfl, trivial⟩ (by kernel_rfl)
      have e143 : a.tmps.getD 59 undef = .bool (((x_68_Text || (decide (0 < (x_68_Set.n : Int)))) || (decide (0 < (x_68_Unset.n : Int)))) || (!r_132)) := hT.vals 23 rfl 59 rfl
      have hAp := hAp.add e143
      exact opk_gval hAp rfl rfl (g := true) (e := (((x_68_Text || (decide (0 < (x_68_Set.n : Int)))) || (decide (0 < (x_68_Unset.n : Int)))) || (!r_132))) rfl (fun hg => r_move (hAp.get rfl)) fun _ _ e => ⟨_, e, Chg.refl _ _, fun _ => Eq.refl _⟩
    · intro a w hT
      have hAp := hT.ag hA86 [(2, .int .i64 id_3)] ⟨rfl, trivial⟩ (by kernel_rfl)
      have e144 : a.tmps.getD 59 undef = .bool (((x_68_Text || (decide (0 < (x_68_Set.n : Int)))) || (decide (0 < (x_68_Unset.n : Int)))) || (!r_132)) := hT.vals 23 rfl 59 rfl
      have hAp := hAp.add e144
      exact opk_gval hAp rfl rfl (g := true) (e := (((x_68_Text || (decide (0 < (x_68_Set.n : Int)))) || (decide (0 < (x_68_Unset.n : Int)))) || (!r_132))) rfl (fun hg => r_move (hAp.get rfl)) fun _ _ e => ⟨_, e, Chg.refl _ _, fun _ => Eq.refl _⟩
    · intro a w hT
      have hAp := hT.ag hA86 [] trivial (by kernel_rfl)
      have e145 : a.tmps.getD 59 undef = .bool (((x_68_Text || (decide (0 < (x_68_Set.n : Int)))) || (decide (0 < (x_68_Unset.n : Int)))) || (!r_132)) := hT.vals 23 rfl 59 rfl
      have hAp := hAp.add e145
      have e146 : a.tmps.getD 62 undef = cV (true && ((((x_68_Text || (decide (0 < (x_68_Set.n : Int)))) || (decide (0 < (x_68_Unset.n : Int)))) || (!r_132)) == false)) (Sl.v r_16) := hT.vals 26 rfl 62 rfl
      have hAp := hAp.add e146
      have e147 : a.tmps.getD 63 undef = cV (true && ((((x_68_Text || (decide (0 < (x_68_Set.n : Int)))) || (decide (0 < (x_68_Unset.n : Int)))) || (!r_132)) == false)) (.int .i64 id_3) := hT.vals 27 rfl 63 rfl
      have hAp := hAp.add e147
      exact opk_gval hAp rfl rfl (g := true) (e := (((x_68_Text || (decide (0 < (x_68_Set.n : Int)))) || (decide (0 < (x_68_Unset.n : Int)))) || (!r_132))) rfl (fun hg => r_indexAddr (cv_get (hAp.get rfl) hg) (cv_get (hAp.get rfl) hg) Try.underlying79 ti_86 (hp149 ⟨⟨⟨(b_or_f (b_or_f (b_or_f (g_f hg)).1).1).1, (of_decide_eq_false (b_or_f (b_or_f (b_or_f (g_f hg)).1).1).2)⟩, (of_decide_eq_false (b_or_f (b_or_f (g_f hg)).1).2)⟩, (b_not_f (b_or_f (g_f hg)).2)⟩).1 (hp149 ⟨⟨⟨(b_or_f (b_or_f (b_or_f (g_f hg)).1).1).1, (of_decide_eq_false (b_or_f (b_or_f (b_or_f (g_f hg)).1).1).2)⟩, (of_decide_eq_false (b_or_f (b_or_f (g_f hg)).1).2)⟩, (b_not_f (b_or_f (g_f hg)).2)⟩).2) fun _ _ e => ⟨_, e, Chg.refl _ _, fun _ => Eq.refl _⟩
    · intro a w hT
      have hAp := hT.ag hA86 [] trivial (by kernel_rfl)
      have e151 : a.tmps.getD 59 undef = .bool (((x_68_Text || (decide (0 < (x_68_Set.n : Int)))) || (decide (0 < (x_68_Unset.n : Int)))) || (!r_132)) := hT.vals 23 rfl 59 rfl
      have hAp := hAp.add e151
      have e152 : a.tmps.getD 64 undef = cV (true && ((((x_68_Text || (decide (0 < (x_68_Set.n : Int)))) || (decide (0 < (x_68_Unset.n : Int)))) || (!r_132)) == false)) (.pointer (some (p_148.add (id_3.toNat * 10)))) := hT.vals 28 rfl 64 rfl
      have hAp := hAp.add e152
      exact opk_gval hAp rfl rfl (g := true) (e := (((x_68_Text || (decide (0 < (x_68_Set.n : Int)))) || (decide (0 < (x_68_Unset.n : Int)))) || (!r_132))) rfl (fun hg => r_fieldAddr (cv_get (hAp.get rfl) hg) Try.underlying86 rfl ti_3 (by decide)) fun _ _ e => ⟨_, e, Chg.refl _ _, fun _ => Eq.refl _⟩
    · intro a w hT
      have hAp := hT.ag hA86 [] trivial (by kernel_rfl)
      have e153 : a.tmps.getD 59 undef = .bool (((x_68_Text || (decide (0 < (x_68_Set.n : Int)))) || (decide (0 < (x_68_Unset.n : Int)))) || (!r_132)) := hT.vals 23 rfl 59 rfl
      have hAp := hAp.add e153
      have e154 : a.tmps.getD 65 undef = cV (true && ((((x_68_Text || (decide (0 < (x_68_Set.n : Int)))) || (decide (0 < (x_68_Unset.n : Int)))) || (!r_132)) == false)) (.pointer (some ((p_148.add (id_3.toNat * 10)).add 0))) := hT.vals 29 rfl 65 rfl
      have hAp := hAp.add e154
      exact opk_gval hAp rfl rfl (g := true) (e := (((x_68_Text || (decide (0 < (x_68_Set.n : Int)))) || (decide (0 < (x_68_Unset.n : Int)))) || (!r_132))) rfl (fun hg => r_load1 Try.underlying3 rfl (cv_get (hAp.get rfl) hg) (Ext.cell hT.chg (hx156 ⟨⟨⟨(b_or_f (b_or_f (b_or_f (g_f hg)).1).1).1, (of_decide_eq_false (b_or_f (b_or_f (b_or_f (g_f hg)).1).1).2)⟩, (of_decide_eq_false (b_or_f (b_or_f (g_f hg)).1).2)⟩, (b_not_f (b_or_f (g_f hg)).2)⟩))) fun _ _ e => ⟨_, e, Chg.refl _ _, fun _ => Eq.refl _⟩
    · intro a w hT
      have hAp := hT.ag hA86 [] trivial (by kernel_rfl)
      have e158 : a.tmps.getD 59 undef = .bool (((x_68_Text || (decide (0 < (x_68_Set.n : Int)))) || (decide (0 < (x_68_Unset.n : Int)))) || (!r_132)) := hT.vals 23 rfl 59 rfl
      have hAp := hAp.add e158
      have e159 : a.tmps.getD 61 undef = cV (true && ((((x_68_Text || (decide (0 < (x_68_Set.n : Int)))) || (decide (0 < (x_68_Unset.n : Int)))) || (!r_132)) == false)) (.int .i64 x_68_Up) := hT.vals 25 rfl 61 rfl
      have hAp := hAp.add e159
      have e160 : a.tmps.getD 66 undef = cV (true && ((((x_68_Text || (decide (0 < (x_68_Set.n : Int)))) || (decide (0 < (x_68_Unset.n : Int)))) || (!r_132)) == false)) (.int .i64 x_155) := hT.vals 30 rfl 66 rfl
      have hAp := hAp.add e160
      exact opk_gval hAp rfl rfl (g := true) (e := (((x_68_Text || (decide (0 < (x_68_Set.n : Int)))) || (decide (0 < (x_68_Unset.n : Int)))) || (!r_132))) rfl (fun hg => r_neq (cv_get (hAp.get rfl) hg) (cv_get (hAp.get rfl) hg)) fun _ _ e => ⟨_, e, Chg.refl _ _, fun _ => Eq.refl _⟩
    · intro a w hT
      have hAp := hT.ag hA86 [] trivial (by kernel_rfl)
      have e161 : a.tmps.getD 59 undef = .bool (((x_68_Text || (decide (0 < (x_68_Set.n : Int)))) || (decide (0 < (x_68_Unset.n : Int)))) || (!r_132)) := hT.vals 23 rfl 59 rfl
      have hAp := hAp.add e161
      have e162 : a.tmps.getD 67 undef = cV (true && ((((x_68_Text || (decide (0 < (x_68_Set.n : Int)))) || (decide (0 < (x_68_Unset.n : Int)))) || (!r_132)) == false)) (.bool (decide (x_68_Up ≠ x_155))) := hT.vals 31 rfl 67 rfl
      have hAp := hAp.add e162
      exact opk_val hAp rfl (r_pick_or (g := (true && ((((x_68_Text || (decide (0 < (x_68_Set.n : Int)))) || (decide (0 < (x_68_Unset.n : Int)))) || (!r_132)) == false))) (hAp.get rfl) (hAp.get rfl) (fun he => g_mkf rfl he)) fun _ _ e => ⟨_, e, Chg.refl _ _, fun _ => Eq.refl _⟩
    · intro a w hT
      have hAp := hT.ag hA86 [] trivial (by kernel_rfl)
      have e163 : a.tmps.getD 68 undef = .bool ((((x_68_Text || (decide (0 < (x_68_Set.n : Int)))) || (decide (0 < (x_68_Unset.n : Int)))) || (!r_132)) || (decide (x_68_Up ≠ x_155))) := hT.vals 32 rfl 68 rfl
      have hAp := hAp.add e163
      exact opk_val hAp rfl (r_assign (hAp.get rfl)) fun _ _ e => ⟨_, e, Chg.refl _ _, fun _ => Eq.refl _⟩
    · intro a164 w165 hE166 hag167 hv168
      have hA164 := hag167 [] trivial (by kernel_rfl)
      have e170 : a164.tmps.getD 6 undef = .bool ((((x_68_Text || (decide (0 < (x_68_Set.n : Int)))) || (decide (0 < (x_68_Unset.n : Int)))) || (!r_132)) || (decide (x_68_Up ≠ x_155))) := hv168 33 rfl 6 rfl
      have hA171 := hA164.add e170
      have hB172 := hB89.ext hE166
      have hC173 : Chg [] w87 w165 := hE166
      refine PR_end (by kernel_rfl) ?_
      have hA174 := hA171.keep [(6, .bool ((((x_68_Text || (decide (0 < (x_68_Set.n : Int)))) || (decide (0 < (x_68_Unset.n : Int)))) || (!r_132)) || (decide (x_68_Up ≠ x_155))))] ⟨rfl, trivial⟩
      refine then_normal ?_
      refine wp_ret ?_
      have ht175 := ht157 w165    hC173
      exact res_all (vs := [.bool ((((x_68_Text || (decide (0 < (x_68_Set.n : Int)))) || (decide (0 < (x_68_Unset.n : Int)))) || (!r_132)) || (decide (x_68_Up ≠ x_155)))]) rfl hA174 ⟨res_of_tmp hA174 rfl, trivial⟩ ht175

/-- The condition of topiary/slots.Kids. -/
def slots_Kids.vc (o_1_Kind : Int) (o_1_Name : Str) (o_1_Text : Str) (o_1_Attrs : Sl) (o_1_Kids : Sl) (id_2 : Int) (R : Value → World → Prop) (w : World) : Prop :=
∀ (w4 : World) (B_3 : Nat), New w B_3 w4 → Chg [] w w4 →
CallK Try.prog 37 #[.agg #[.int .i64 o_1_Kind, .string (Bs o_1_Name), .string (Bs o_1_Text), Sl.v o_1_Attrs, Sl.v o_1_Kids]] w4 [B_3] (fun v w17 => ∃ (r_15 : Sl), v = Sl.v r_15 ∧
(((id_2 < 0) ∨ ((r_15.n : Int) ≤ id_2)) →
R (Sl.v Sl.nil) w17) ∧
(((¬ (id_2 < 0)) ∧ (¬ ((r_15.n : Int) ≤ id_2))) →
CallK Try.prog 41 #[Sl.v r_15, .int .i64 id_2] w17 [] (fun v w43 => ∃ (r_41 : Sl), v = Sl.v r_41 ∧
R (Sl.v r_41) w43)))
set_option maxHeartbeats 1000000 in
set_option maxRecDepth 10000 in
theorem slots_Kids.ok (o_1_Kind : Int) (o_1_Name : Str) (o_1_Text : Str) (o_1_Attrs : Sl) (o_1_Kids : Sl) (id_2 : Int) {R : Value → World → Prop} {w : World} (ht0 : slots_Kids.vc o_1_Kind o_1_Name o_1_Text o_1_Attrs o_1_Kids id_2 R w) : Calls Try.prog 24 #[.agg #[.int .i64 o_1_Kind, .string (Bs o_1_Name), .string (Bs o_1_Text), Sl.v o_1_Attrs, Sl.v o_1_Kids], .int .i64 id_2] w (Ret R) := by
  refine enter [.agg #[.int .i64 o_1_Kind, .string (Bs o_1_Name), .string (Bs o_1_Text), Sl.v o_1_Attrs, Sl.v o_1_Kids], .int .i64 id_2] Try.func24 rfl Try.ntmps24 rfl ?_
  intro a0 hA0
  unfold slots_Kids.vc at ht0
  refine wp_seq ?_
  refine wp_region_lit ?_
  refine sq (opk_new (fun B => .pointer (some ⟨B, 0, none⟩)) hA0 rfl (r_box (cs := [.int .i64 o_1_Kind, .string (Bs o_1_Name), .string (Bs o_1_Text), Sl.v o_1_Attrs, Sl.v o_1_Kids]) (hA0.get rfl) rfl) fun a5 w4 B_3 hE6 hN7 hB8 hA5 _ => ?_)
  have hN9 : New w B_3 w4 := hN7
  have hC10 : Chg [] w w4 := hE6
  refine sq (opk_val hA5 rfl (r_assign rfl) fun a11 hA11 _ => ?_)
  refine sq_end ?_
  have hA12 := hA11.keep [(1, .int .i64 id_2), (2, .pointer (some (⟨B_3, 0, none⟩ : Addr)))] ⟨rfl, rfl, trivial⟩
  refine then_normal ?_
  refine wp_seq ?_
  refine wp_region_lit ?_
  refine sq (opk_val hA12 rfl (r_loadN (cs := [.int .i64 o_1_Kind, .string (Bs o_1_Name), .string (Bs o_1_Text), Sl.v o_1_Attrs, Sl.v o_1_Kids]) Try.underlying26 rfl ti_26 (hA12.get rfl) (hB8.part 0 _ rfl)) fun a13 hA13 _ => ?_)
  have ht14 := ht0 w4 B_3 hN9  hC10
  refine sq (opk_call hA13 rfl (r_call (args := #[.agg #[.int .i64 o_1_Kind, .string (Bs o_1_Name), .string (Bs o_1_Text), Sl.v o_1_Attrs, Sl.v o_1_Kids]]) Try.func37 (by decide) rfl (map_arr (ml_cons (hA13.get rfl) ml_nil)) rfl) ht14 fun a16 v22 w17 hA16 _ hn19 hz20 hK21 => ?_)
  obtain ⟨r_15, rfl, ht18⟩ := hK21
  have hB23 := hB8.kept hn19 (.head _)
  refine sq (opk_val hA16 rfl (r_assign (hA16.get rfl)) fun a24 hA24 _ => ?_)
  refine sq_end ?_
  have hA25 := hA24.keep [(1, .int .i64 id_2), (5, Sl.v r_15)] ⟨rfl, rfl, trivial⟩
  refine then_normal ?_
  refine wp_seq ?_
  refine wp_seq ?_
  refine wp_region_lit ?_
  refine sq (opk_val hA25 rfl (r_move (hA25.get rfl)) fun a26 hA26 _ => ?_)
  refine sq (opk_val hA26 rfl (r_lss (hA26.get rfl) rfl) fun a27 hA27 _ => ?_)
  refine sq (opk_val hA27 rfl (r_move (hA27.get rfl)) fun a28 hA28 _ => ?_)
  refine sq (opk_gval hA28 rfl rfl (g := true) (e := (decide (id_2 < 0))) rfl (fun hg => r_move (hA28.get rfl)) fun a29 hA29 _ => ?_)
  refine sq (opk_gval hA29 rfl rfl (g := true) (e := (decide (id_2 < 0))) rfl (fun hg => r_move (hA29.get rfl)) fun a30 hA30 _ => ?_)
  refine sq (opk_gval hA30 rfl rfl (g := true) (e := (decide (id_2 < 0))) rfl (fun hg => r_len (cv_get (hA30.get rfl) hg) Try.underlying79) fun a31 hA31 _ => ?_)
  refine sq (opk_gval hA31 rfl rfl (g := true) (e := (decide (id_2 < 0))) rfl (fun hg => r_geq (cv_get (hA31.get rfl) hg) (cv_get (hA31.get rfl) hg)) fun a32 hA32 _ => ?_)
  refine sq (opk_val hA32 rfl (r_pick_or (g := (true && ((decide (id_2 < 0)) == false))) (hA32.get rfl) (hA32.get rfl) (fun he => g_mkf rfl he)) fun a33 hA33 _ => ?_)
  refine sq_end ?_
  have hA34 := hA33.keep [(1, .int .i64 id_2), (5, Sl.v r_15), (15, .bool ((decide (id_2 < 0)) || (decide ((r_15.n : Int) ≤ id_2))))] ⟨rfl, rfl, rfl, trivial⟩
  refine then_normal ?_
  refine wp_cond_split (hA34.get rfl) (fun hc => ?_) (fun hc => ?_)
  · have ht35 := ht18.1 ((b_or_t hc).imp (fun h => (of_decide_eq_true h)) (fun h => (of_decide_eq_true h)))
    clear hc
    refine wp_seq ?_
    refine wp_region_lit ?_
    refine sq (opk_val hA34 rfl (r_assign rfl) fun a37 hA37 _ => ?_)
    refine sq_end ?_
    have hA38 := hA37.keep [(4, Sl.v Sl.nil)] ⟨rfl, trivial⟩
    refine then_normal ?_
    refine wp_ret ?_
    refine then_ret ?_
    exact res_all (vs := [Sl.v Sl.nil]) rfl hA38 ⟨res_of_tmp hA38 rfl, trivial⟩ ht35
  · have ht36 := ht18.2 ⟨(of_decide_eq_false (b_or_f hc).1), (of_decide_eq_false (b_or_f hc).2)⟩
    clear hc
    refine wp_skip ?_
    refine then_normal ?_
    refine wp_seq ?_
    refine wp_region_lit ?_
    refine sq (opk_val hA34 rfl (r_move (hA34.get rfl)) fun a39 hA39 _ => ?_)
    refine sq (opk_val hA39 rfl (r_move (hA39.get rfl)) fun a40 hA40 _ => ?_)
    refine sq (opk_call hA40 rfl (r_call (args := #[Sl.v r_15, .int .i64 id_2]) Try.func41 (by decide) rfl (map_arr (ml_cons (hA40.get rfl) (ml_cons (hA40.get rfl) ml_nil))) rfl) ht36 fun a42 v48 w43 hA42 _ hn45 hz46 hK47 => ?_)
    obtain ⟨r_41, rfl, ht44⟩ := hK47
    refine sq (opk_val hA42 rfl (r_assign (hA42.get rfl)) fun a49 hA49 _ => ?_)
    refine sq_end ?_
    have hA50 := hA49.keep [(4, Sl.v r_41)] ⟨rfl, trivial⟩
    refine then_normal ?_
    refine wp_ret ?_
    exact res_all (vs := [Sl.v r_41]) rfl hA50 ⟨res_of_tmp hA50 rfl, trivial⟩ ht44

/-- The condition of topiary/slots.Of.1. -/
def slots_Of_1.vc (j_1 : Int) (x_2 : Addr) (R : Value → World → Prop) (w : World) : Prop :=
∃ (x_6 : Option Nat), (w.cell? x_2 = some (.map x_6)) ∧
∃ (r_0_11 : Int) (r_1_12 : Bool), ((Instr.lookup 81 (.map x_6) (.int .i64 j_1) true).run Try.prog w = .ok (.tuple #[.int .i64 r_0_11, .bool r_1_12]) w) ∧
((r_1_12 = true) →
R (.int .i64 r_0_11) w) ∧
((r_1_12 = false) →
(I64 ((-2) - j_1)) ∧
R (.int .i64 ((-2) - j_1)) w)
set_option maxHeartbeats 1000000 in
set_option maxRecDepth 10000 in
theorem slots_Of_1.ok (j_1 : Int) (x_2 : Addr) {R : Value → World → Prop} {w : World} (ht0 : slots_Of_1.vc j_1 x_2 R w) : Calls Try.prog 38 #[.int .i64 j_1, .pointer (some x_2)] w (Ret R) := by
  refine enter [.int .i64 j_1, .pointer (some x_2)] Try.func38 rfl Try.ntmps38 rfl ?_
  intro a0 hA0
  unfold slots_Of_1.vc at ht0
  refine wp_seq ?_
  refine wp_region_lit ?_
  refine sq (opk_val hA0 rfl (r_assign rfl) fun a3 hA3 _ => ?_)
  refine sq_end ?_
  have hA4 := hA3.keep [(0, .int .i64 j_1), (1, .pointer (some x_2))] ⟨rfl, rfl, trivial⟩
  refine then_normal ?_
  refine wp_seq ?_
  refine wp_seq ?_
  refine wp_region_lit ?_
  obtain ⟨x_6, hx7, ht8⟩ := ht0
  refine sq (opk_val hA4 rfl (r_load1 Try.underlying81 rfl (hA4.get rfl) hx7) fun a5 hA5 _ => ?_)
  refine sq (opk_val hA5 rfl (r_move (hA5.get rfl)) fun a9 hA9 _ => ?_)
  obtain ⟨r_0_11, r_1_12, hx13, ht14⟩ := ht8
  refine sq (opk_val hA9 rfl (r_lookup (hA9.get rfl) (hA9.get rfl) hx13) fun a10 hA10 _ => ?_)
  refine sq (opk_val hA10 rfl (r_move (hA10.get rfl)) fun a15 hA15 _ => ?_)
  refine sq (opk_val hA15 rfl (r_extract (hA15.get rfl) rfl) fun a16 hA16 _ => ?_)
  refine sq (opk_val hA16 rfl (r_extract (hA16.get rfl) rfl) fun a17 hA17 _ => ?_)
  refine sq (opk_val hA17 rfl (r_assign (hA17.get rfl)) fun a18 hA18 _ => ?_)
  refine sq (opk_val hA18 rfl (r_assign (hA18.get rfl)) fun a19 hA19 _ => ?_)
  refine sq_end ?_
  have hA20 := hA19.keep [(0, .int .i64 j_1), (4, .int .i64 r_0_11), (5, .bool r_1_12)] ⟨rfl, rfl, rfl, trivial⟩
  refine then_normal ?_
  refine wp_seq ?_
  refine wp_region_lit ?_
  refine sq (opk_val hA20 rfl (r_move (hA20.get rfl)) fun a21 hA21 _ => ?_)
  refine sq_end ?_
  have hA22 := hA21.keep [(0, .int .i64 j_1), (4, .int .i64 r_0_11), (12, .bool r_1_12)] ⟨rfl, rfl, rfl, trivial⟩
  refine then_normal ?_
  refine wp_cond_split (hA22.get rfl) (fun hc => ?_) (fun hc => ?_)
  · have ht23 := ht14.1 hc
    clear hc
    refine wp_seq ?_
    refine wp_region_lit ?_
    refine sq (opk_val hA22 rfl (r_move (hA22.get rfl)) fun a25 hA25 _ => ?_)
    refine sq (opk_val hA25 rfl (r_assign (hA25.get rfl)) fun a26 hA26 _ => ?_)
    refine sq_end ?_
    have hA27 := hA26.keep [(3, .int .i64 r_0_11)] ⟨rfl, trivial⟩
    refine then_normal ?_
    refine wp_ret ?_
    refine then_ret ?_
    exact res_all (vs := [.int .i64 r_0_11]) rfl hA27 ⟨res_of_tmp hA27 rfl, trivial⟩ ht23
  · have ht24 := ht14.2 hc
    clear hc
    refine wp_skip ?_
    refine then_normal ?_
    refine wp_seq ?_
    refine wp_region_lit ?_
    refine sq (opk_val hA22 rfl (r_move (hA22.get rfl)) fun a28 hA28 _ => ?_)
    obtain ⟨hS30, ht31⟩ := ht24
    refine sq (opk_val hA28 rfl (r_subI rfl (hA28.get rfl) hS30) fun a29 hA29 _ => ?_)
    refine sq (opk_val hA29 rfl (r_assign (hA29.get rfl)) fun a32 hA32 _ => ?_)
    refine sq_end ?_
    have hA33 := hA32.keep [(3, .int .i64 ((-2) - j_1))] ⟨rfl, trivial⟩
    refine then_normal ?_
    refine wp_ret ?_
    exact res_all (vs := [.int .i64 ((-2) - j_1)]) rfl hA33 ⟨res_of_tmp hA33 rfl, trivial⟩ ht31

end Go.Proofs.Yteohbfaechfliaa
