/-
  PRINTED BY PROGRAM: for each function its condition (vc), and that this suffices (ok).
-/
import Derived.Test.YtcploacnonngaaaDoorQFormatPutsGT
namespace Go.Proofs.YtcploacnonngaaaDoor
open Go.RowKit
set_option linter.unusedVariables false

/-- The condition of slices.Delete[[]topiary/format.slottopiary/format.slot]. -/
def slices_Delete__format_slot_format_slot_.vc (s_1 : Sl) (i_2 : Int) (j_3 : Int) (R : Value → World → Prop) (w : World) : Prop :=
((0 : Int) ≤ i_2 ∧ (i_2 : Int) ≤ j_3 ∧ j_3 ≤ (s_1.n : Int) ∧ (s_1.n : Int) ≤ (s_1.c : Int)) ∧
((i_2 = j_3) →
R (Sl.v s_1) w) ∧
((¬ (i_2 = j_3)) →
∀ (w9 : World), Chg [] w w9 →
((0 : Int) ≤ i_2 ∧ i_2 ≤ (s_1.c : Int)) ∧
((0 : Int) ≤ j_3 ∧ j_3 ≤ (s_1.n : Int)) ∧
∀ (w10 : World), Chg [] w9 w10 →
RunK Tryd.prog (Builtin.append_ #[45, 45] 45 #[Sl.v (Sl.cut s_1 4 0 i_2.toNat s_1.c), Sl.v (Sl.cut s_1 4 j_3.toNat s_1.n s_1.c)]) w10 [] (fun v w11 => ∃ (r_12 : Sl), v = Sl.v r_12 ∧
((0 : Int) ≤ (r_12.n : Int) ∧ ((r_12.n : Int) : Int) ≤ (s_1.n : Int) ∧ (s_1.n : Int) ≤ (r_12.c : Int)) ∧
∀ (w13 : World), Chg [] w11 w13 →
RunN Tryd.prog (Builtin.clear_ #[45] 0 #[Sl.v (Sl.cut r_12 4 (r_12.n : Int).toNat (s_1.n : Int).toNat r_12.c)]) w13 [] (fun w15 =>
R (Sl.v r_12) w15)))
set_option maxHeartbeats 1000000 in
set_option maxRecDepth 10000 in
theorem slices_Delete__format_slot_format_slot_.ok (s_1 : Sl) (i_2 : Int) (j_3 : Int) {R : Value → World → Prop} {w : World} (ht0 : slices_Delete__format_slot_format_slot_.vc s_1 i_2 j_3 R w) : Calls Tryd.prog 23 #[Sl.v s_1, .int .i64 i_2, .int .i64 j_3] w (Ret R) := by
  refine go _ Tryd.func23 Tryd.ntmps23 ht0 ?_
  refine gS <| gR <| gN <| ge <| tn <| gS <| gR ?_
  refine gM ?_
  refine gM ?_
  refine gM ?_
  refine gM ?_
  refine g1 (fun hx0 => r_len hx0 Tryd.underlying45) ?_
  refine g4s (fun hx0 hx1 hx2 hx3 h => r_slice3 hx0 hx1 hx2 hx3 Tryd.underlying45 ti_49 h) <| ge <| tn <| gS <| gS <| gR ?_
  refine gM ?_
  refine gM ?_
  refine g2 r_eql <| ge <| tn ?_
  refine gi dT dF ?_ ?_
  · refine gS <| gR <| gM ?_
    refine gN <| ge <| tn <| gr <| tr ?_
    exact gz1
  · refine gk <| tn <| gS <| gR <| gM ?_
    refine g1 (fun hx0 => r_len hx0 Tryd.underlying45) ?_
    refine gN <| ge <| tn <| gS ?_
    refine gD fun w9 => gT0 ?_
    refine gW 0 6 [] ?_
    refine gM ?_
    refine gM ?_
    refine g2s (fun hx0 hx1 h => r_sliceH hx0 hx1 Tryd.underlying45 ti_49 h) ?_
    refine gM ?_
    refine gM ?_
    refine g2s (fun hx0 hx1 h => r_sliceL hx0 hx1 Tryd.underlying45 ti_49 h) <| geT fun w10 => ?_
    refine gO 6 <| gT0 ?_
    refine gR2 [] r_append fun _ w11 => gE fun r_12 => gQ <| geO ?_
    refine gW 7 1 [] ?_
    refine gN <| geT fun w13 => ?_
    refine gZ <| tn <| gS <| gR ?_
    refine gM ?_
    refine gM ?_
    refine g1 (fun hx0 => r_len hx0 Tryd.underlying45) ?_
    refine gM ?_
    refine g3s (fun hx0 hx1 hx2 h => r_slice2 hx0 hx1 hx2 Tryd.underlying45 ti_49 h) <| gT0 ?_
    refine gN1 [] r_clear fun w15 => ge <| tn <| gS <| gR ?_
    refine gM ?_
    refine gN <| ge <| tn <| gr ?_
    exact gz1

/-- The condition of slices.IndexFunc[[]topiary/format.slottopiary/format.slot]. -/
def slices_IndexFunc__format_slot_format_slot_.vc (s_1 : Sl) (f_2 : Value) (R : Value → World → Prop) (w : World) : Prop :=
∃ (J_7 : Int → World → Prop) (mu_8 : Int → World → Nat),
J_7 0 w ∧
(∀ (x_5 : Int) (w6 : World), J_7 x_5 w6 →
((x_5 < (s_1.n : Int)) →
((0 : Int) ≤ x_5 ∧ x_5 < (s_1.n : Int)) ∧ ∃ p_23 : Addr, s_1.a = some p_23 ∧
∃ (x_24_e_ID : Int) (x_24_e_Name : Str) (x_24_e_Attrs : Sl) (x_24_marker : Bool), (Cells w6 (p_23.add (x_5.toNat * 4)) [.int .i64 x_24_e_ID, .string (Bs x_24_e_Name), Sl.v x_24_e_Attrs, .bool x_24_marker]) ∧
∃ (f_25 : FuncId) (fst_26 cap_27 : Array Value), (f_2 = .func (.func f_25) fst_26 cap_27) ∧
Body Tryd.prog f_25 ∧
CallK Tryd.prog f_25 (fst_26 ++ #[.agg #[.int .i64 x_24_e_ID, .string (Bs x_24_e_Name), Sl.v x_24_e_Attrs, .bool x_24_marker]] ++ cap_27) w6 [] (fun v w29 => ∃ (r_28 : Bool), v = .bool r_28 ∧
((r_28 = true) →
R (.int .i64 x_5) w29) ∧
((r_28 = false) →
(I64 (x_5 + 1)) ∧
J_7 (x_5 + 1) w29 ∧ mu_8 (x_5 + 1) w29 < mu_8 x_5 w6))) ∧
((¬ (x_5 < (s_1.n : Int))) →
R (.int .i64 (-1)) w6))
set_option maxHeartbeats 1000000 in
set_option maxRecDepth 10000 in
theorem slices_IndexFunc__format_slot_format_slot_.ok (s_1 : Sl) (f_2 : Value) {R : Value → World → Prop} {w : World} (ht0 : slices_IndexFunc__format_slot_format_slot_.vc s_1 f_2 R w) : Calls Tryd.prog 25 #[Sl.v s_1, f_2] w (Ret R) := by
  refine go _ Tryd.func25 Tryd.ntmps25 ht0 ?_
  refine gS <| gR <| gN <| ge <| tn <| gS <| gS <| gR ?_
  refine gM ?_
  refine g1 (fun hx0 => r_len hx0 Tryd.underlying45) ?_
  refine gM <| ge <| tn <| gb <| gE fun _ => gE fun mu => ?_
  refine l1 mu (fun x_5 => [(8, .int .i64 x_5)]) [(0, _), (1, _), (7, _)] (fun _ => []) [] [] fun x_5 w6 _ => gS <| gR ?_
  refine g2 r_lss <| ge <| tn <| gS ?_
  refine gi dT dF ?_ ?_
  · refine gk <| tn <| gS <| gb <| gS <| gR <| gM ?_
    refine gN <| ge <| tn <| gS <| gR ?_
    refine gM ?_
    refine gM ?_
    refine gM ?_
    refine gI1 Tryd.underlying45 ti_49 fun p_23 => ?_
    refine gE fun x_24_e_ID => gE fun x_24_e_Name => gE fun x_24_e_Attrs => gE fun x_24_marker => gLN Tryd.underlying49 ti_49 <| gE fun f_25 => gE fun fst_26 => gE fun cap_27 => gA fun hp => ?_
    refine gA fun hb => gCo [] hb (fun _ h => ((h.opv rfl).trans hp)) fun _ w29 => gE fun r_28 => gQ <| ge <| tn ?_
    refine gi id id ?_ ?_
    · refine gS <| gR <| gM ?_
      refine gN <| ge <| tn <| gr <| br <| tr <| tr <| br <| tr ?_
      exact gz1
    · refine gk <| bn <| tn <| gR <| g2s r_addI ?_
      refine gM <| ge ?_
      exact k1 []
  · refine gx <| te <| te <| bh <| tn <| gS <| gR <| gN <| ge <| tn <| gr ?_
    exact gz1

/-- The condition of slices.Insert[[]topiary/format.slottopiary/format.slot]. -/
def slices_Insert__format_slot_format_slot_.vc (s_1 : Sl) (i_2 : Int) (v_3 : Sl) (R : Value → World → Prop) (w : World) : Prop :=
((0 : Int) ≤ i_2 ∧ i_2 ≤ (s_1.n : Int)) ∧
(((v_3.n : Int) = 0) →
R (Sl.v s_1) w) ∧
((¬ ((v_3.n : Int) = 0)) →
((i_2 = (s_1.n : Int)) →
RunK Tryd.prog (Builtin.append_ #[45, 45] 45 #[Sl.v s_1, Sl.v v_3]) w [] (fun v w37 => ∃ (r_43 : Sl), v = Sl.v r_43 ∧
R (Sl.v r_43) w37)) ∧
((¬ (i_2 = (s_1.n : Int))) →
(I64 ((s_1.n : Int) + (v_3.n : Int))) ∧
(((s_1.c : Int) < ((s_1.n : Int) + (v_3.n : Int))) →
((0 : Int) ≤ i_2 ∧ i_2 ≤ (s_1.c : Int)) ∧
(I64 ((s_1.n : Int) + (v_3.n : Int))) ∧
(I64 (((s_1.n : Int) + (v_3.n : Int)) - i_2)) ∧
RunK Tryd.prog (Builtin.append_ #[45, 3] 45 #[Sl.v (Sl.cut s_1 4 0 i_2.toNat s_1.c), .int .i64 (((s_1.n : Int) + (v_3.n : Int)) - i_2)]) w [] (fun v w72 => ∃ (r_78 : Sl), v = Sl.v r_78 ∧
((0 : Int) ≤ i_2 ∧ i_2 ≤ (r_78.n : Int)) ∧
RunK Tryd.prog (Builtin.copy_ #[45, 45] 3 #[Sl.v (Sl.cut r_78 4 i_2.toNat r_78.n r_78.c), Sl.v v_3]) w72 [] (fun v w88 => ∃ (r_94 : Int), v = .int .i64 r_94 ∧
∀ (w96 : World), Chg [] w88 w96 →
(I64 (i_2 + (v_3.n : Int))) ∧
((0 : Int) ≤ i_2 + (v_3.n : Int) ∧ i_2 + (v_3.n : Int) ≤ (r_78.n : Int)) ∧
((0 : Int) ≤ i_2 ∧ i_2 ≤ (s_1.n : Int)) ∧
∀ (w113 : World), Chg [] w96 w113 →
RunK Tryd.prog (Builtin.copy_ #[45, 45] 3 #[Sl.v (Sl.cut r_78 4 (i_2 + (v_3.n : Int)).toNat r_78.n r_78.c), Sl.v (Sl.cut s_1 4 i_2.toNat s_1.n s_1.c)]) w113 [] (fun v w125 => ∃ (r_131 : Int), v = .int .i64 r_131 ∧
R (Sl.v r_78) w125)))) ∧
((¬ ((s_1.c : Int) < ((s_1.n : Int) + (v_3.n : Int)))) →
(I64 ((s_1.n : Int) + (v_3.n : Int))) ∧
((0 : Int) ≤ (s_1.n : Int) + (v_3.n : Int) ∧ (s_1.n : Int) + (v_3.n : Int) ≤ (s_1.c : Int)) ∧
(I64 (i_2 + (v_3.n : Int))) ∧
((0 : Int) ≤ i_2 + (v_3.n : Int) ∧ i_2 + (v_3.n : Int) ≤ ((Sl.cut s_1 4 0 ((s_1.n : Int) + (v_3.n : Int)).toNat s_1.c).n : Int)) ∧
∃ r_158 : Bool, ((Extern.SlicesOverlaps.overlaps #[45, 45] #[4] #[Sl.v v_3, Sl.v (Sl.cut (Sl.cut s_1 4 0 ((s_1.n : Int) + (v_3.n : Int)).toNat s_1.c) 4 (i_2 + (v_3.n : Int)).toNat (Sl.cut s_1 4 0 ((s_1.n : Int) + (v_3.n : Int)).toNat s_1.c).n (Sl.cut s_1 4 0 ((s_1.n : Int) + (v_3.n : Int)).toNat s_1.c).c)]).run Tryd.prog w = .ok (.bool r_158) w) ∧
((r_158 = false) →
∀ (w165 : World), Chg [] w w165 →
(I64 (i_2 + (v_3.n : Int))) ∧
((0 : Int) ≤ i_2 + (v_3.n : Int) ∧ i_2 + (v_3.n : Int) ≤ ((Sl.cut s_1 4 0 ((s_1.n : Int) + (v_3.n : Int)).toNat s_1.c).n : Int)) ∧
((0 : Int) ≤ i_2 ∧ i_2 ≤ ((Sl.cut s_1 4 0 ((s_1.n : Int) + (v_3.n : Int)).toNat s_1.c).n : Int)) ∧
∀ (w182 : World), Chg [] w165 w182 →
RunK Tryd.prog (Builtin.copy_ #[45, 45] 3 #[Sl.v (Sl.cut (Sl.cut s_1 4 0 ((s_1.n : Int) + (v_3.n : Int)).toNat s_1.c) 4 (i_2 + (v_3.n : Int)).toNat (Sl.cut s_1 4 0 ((s_1.n : Int) + (v_3.n : Int)).toNat s_1.c).n (Sl.cut s_1 4 0 ((s_1.n : Int) + (v_3.n : Int)).toNat s_1.c).c), Sl.v (Sl.cut (Sl.cut s_1 4 0 ((s_1.n : Int) + (v_3.n : Int)).toNat s_1.c) 4 i_2.toNat (Sl.cut s_1 4 0 ((s_1.n : Int) + (v_3.n : Int)).toNat s_1.c).n (Sl.cut s_1 4 0 ((s_1.n : Int) + (v_3.n : Int)).toNat s_1.c).c)]) w182 [] (fun v w194 => ∃ (r_200 : Int), v = .int .i64 r_200 ∧
((0 : Int) ≤ i_2 ∧ i_2 ≤ ((Sl.cut s_1 4 0 ((s_1.n : Int) + (v_3.n : Int)).toNat s_1.c).n : Int)) ∧
RunK Tryd.prog (Builtin.copy_ #[45, 45] 3 #[Sl.v (Sl.cut (Sl.cut s_1 4 0 ((s_1.n : Int) + (v_3.n : Int)).toNat s_1.c) 4 i_2.toNat (Sl.cut s_1 4 0 ((s_1.n : Int) + (v_3.n : Int)).toNat s_1.c).n (Sl.cut s_1 4 0 ((s_1.n : Int) + (v_3.n : Int)).toNat s_1.c).c), Sl.v v_3]) w194 [] (fun v w209 => ∃ (r_215 : Int), v = .int .i64 r_215 ∧
R (Sl.v (Sl.cut s_1 4 0 ((s_1.n : Int) + (v_3.n : Int)).toNat s_1.c)) w209))) ∧
((r_158 = true) →
((0 : Int) ≤ (s_1.n : Int) ∧ (s_1.n : Int) ≤ ((Sl.cut s_1 4 0 ((s_1.n : Int) + (v_3.n : Int)).toNat s_1.c).n : Int)) ∧
RunK Tryd.prog (Builtin.copy_ #[45, 45] 3 #[Sl.v (Sl.cut (Sl.cut s_1 4 0 ((s_1.n : Int) + (v_3.n : Int)).toNat s_1.c) 4 (s_1.n : Int).toNat (Sl.cut s_1 4 0 ((s_1.n : Int) + (v_3.n : Int)).toNat s_1.c).n (Sl.cut s_1 4 0 ((s_1.n : Int) + (v_3.n : Int)).toNat s_1.c).c), Sl.v v_3]) w [] (fun v w227 => ∃ (r_233 : Int), v = .int .i64 r_233 ∧
((0 : Int) ≤ i_2 ∧ i_2 ≤ ((Sl.cut s_1 4 0 ((s_1.n : Int) + (v_3.n : Int)).toNat s_1.c).n : Int)) ∧
CallK Tryd.prog 34 #[Sl.v (Sl.cut (Sl.cut s_1 4 0 ((s_1.n : Int) + (v_3.n : Int)).toNat s_1.c) 4 i_2.toNat (Sl.cut s_1 4 0 ((s_1.n : Int) + (v_3.n : Int)).toNat s_1.c).n (Sl.cut s_1 4 0 ((s_1.n : Int) + (v_3.n : Int)).toNat s_1.c).c), .int .i64 (v_3.n : Int)] w227 [] (fun v w242 => v = .tuple #[] ∧
R (Sl.v (Sl.cut s_1 4 0 ((s_1.n : Int) + (v_3.n : Int)).toNat s_1.c)) w242))))))
set_option maxHeartbeats 1000000 in
set_option maxRecDepth 10000 in
theorem slices_Insert__format_slot_format_slot_.ok (s_1 : Sl) (i_2 : Int) (v_3 : Sl) {R : Value → World → Prop} {w : World} (ht0 : slices_Insert__format_slot_format_slot_.vc s_1 i_2 v_3 R w) : Calls Tryd.prog 27 #[Sl.v s_1, .int .i64 i_2, Sl.v v_3] w (Ret R) := by
  refine enter [Sl.v s_1, .int .i64 i_2, Sl.v v_3] Tryd.func27 rfl Tryd.ntmps27 rfl ?_
  intro a0 hA0
  unfold slices_Insert__format_slot_format_slot_.vc at ht0
  refine wp_seq ?_
  refine wp_region_lit ?_
  refine sq (opk_val hA0 rfl (r_assign rfl) fun a4 hA4 _ => ?_)
  refine sq_end ?_
  have hA5 := hA4.keep [(0, Sl.v s_1), (1, .int .i64 i_2), (2, Sl.v v_3)] ⟨rfl, rfl, rfl, trivial⟩
  refine then_normal ?_
  refine wp_seq ?_
  refine wp_region_lit ?_
  refine sq (opk_val hA5 rfl (r_move (hA5.get rfl)) fun a6 hA6 _ => ?_)
  refine sq (opk_val hA6 rfl (r_move (hA6.get rfl)) fun a7 hA7 _ => ?_)
  obtain ⟨hS9, ht10⟩ := ht0
  refine sq (opk_val hA7 rfl (r_sliceL (hA7.get rfl) (hA7.get rfl) Tryd.underlying45 ti_49 hS9) fun a8 hA8 _ => ?_)
  refine sq_end ?_
  have hA11 := hA8.keep [(0, Sl.v s_1), (1, .int .i64 i_2), (2, Sl.v v_3)] ⟨rfl, rfl, rfl, trivial⟩
  refine then_normal ?_
  refine wp_seq ?_
  refine wp_region_lit ?_
  refine sq (opk_val hA11 rfl (r_move (hA11.get rfl)) fun a12 hA12 _ => ?_)
  refine sq (opk_val hA12 rfl (r_len (hA12.get rfl) Tryd.underlying45) fun a13 hA13 _ => ?_)
  refine sq (opk_val hA13 rfl (r_assign (hA13.get rfl)) fun a14 hA14 _ => ?_)
  refine sq_end ?_
  have hA15 := hA14.keep [(0, Sl.v s_1), (1, .int .i64 i_2), (2, Sl.v v_3), (7, .int .i64 (v_3.n : Int))] ⟨rfl, rfl, rfl, rfl, trivial⟩
  refine then_normal ?_
  refine wp_seq ?_
  refine wp_seq ?_
  refine wp_region_lit ?_
  refine sq (opk_val hA15 rfl (r_move (hA15.get rfl)) fun a16 hA16 _ => ?_)
  refine sq (opk_val hA16 rfl (r_eql (hA16.get rfl) rfl) fun a17 hA17 _ => ?_)
  refine sq_end ?_
  have hA18 := hA17.keep [(0, Sl.v s_1), (1, .int .i64 i_2), (2, Sl.v v_3), (7, .int .i64 (v_3.n : Int)), (16, .bool (decide ((v_3.n : Int) = 0)))] ⟨rfl, rfl, rfl, rfl, rfl, trivial⟩
  refine then_normal ?_
  refine wp_cond_split (hA18.get rfl) (fun hc => ?_) (fun hc => ?_)
  · have ht19 := ht10.1 (of_decide_eq_true hc)
    clear hc
    refine wp_seq ?_
    refine wp_region_lit ?_
    refine sq (opk_val hA18 rfl (r_move (hA18.get rfl)) fun a21 hA21 _ => ?_)
    refine sq (opk_val hA21 rfl (r_assign (hA21.get rfl)) fun a22 hA22 _ => ?_)
    refine sq_end ?_
    have hA23 := hA22.keep [(6, Sl.v s_1)] ⟨rfl, trivial⟩
    refine then_normal ?_
    refine wp_ret ?_
    refine then_ret ?_
    exact res_all (vs := [Sl.v s_1]) rfl hA23 ⟨res_of_tmp hA23 rfl, trivial⟩ ht19
  · have ht20 := ht10.2 (of_decide_eq_false hc)
    clear hc
    refine wp_skip ?_
    refine then_normal ?_
    refine wp_seq ?_
    refine wp_region_lit ?_
    refine sq (opk_val hA18 rfl (r_move (hA18.get rfl)) fun a24 hA24 _ => ?_)
    refine sq (opk_val hA24 rfl (r_len (hA24.get rfl) Tryd.underlying45) fun a25 hA25 _ => ?_)
    refine sq (opk_val hA25 rfl (r_assign (hA25.get rfl)) fun a26 hA26 _ => ?_)
    refine sq_end ?_
    have hA27 := hA26.keep [(0, Sl.v s_1), (1, .int .i64 i_2), (2, Sl.v v_3), (7, .int .i64 (v_3.n : Int)), (8, .int .i64 (s_1.n : Int))] ⟨rfl, rfl, rfl, rfl, rfl, trivial⟩
    refine then_normal ?_
    refine wp_seq ?_
    refine wp_seq ?_
    refine wp_region_lit ?_
    refine sq (opk_val hA27 rfl (r_move (hA27.get rfl)) fun a28 hA28 _ => ?_)
    refine sq (opk_val hA28 rfl (r_move (hA28.get rfl)) fun a29 hA29 _ => ?_)
    refine sq (opk_val hA29 rfl (r_eql (hA29.get rfl) (hA29.get rfl)) fun a30 hA30 _ => ?_)
    refine sq_end ?_
    have hA31 := hA30.keep [(0, Sl.v s_1), (1, .int .i64 i_2), (2, Sl.v v_3), (7, .int .i64 (v_3.n : Int)), (8, .int .i64 (s_1.n : Int)), (22, .bool (decide (i_2 = (s_1.n : Int))))] ⟨rfl, rfl, rfl, rfl, rfl, rfl, trivial⟩
    refine then_normal ?_
    refine wp_cond_split (hA31.get rfl) (fun hc => ?_) (fun hc => ?_)
    · have ht32 := ht20.1 (of_decide_eq_true hc)
      clear hc
      refine wp_seq ?_
      refine wp_region_lit ?_
      refine sq (opk_val hA31 rfl (r_move (hA31.get rfl)) fun a34 hA34 _ => ?_)
      refine sq (opk_val hA34 rfl (r_move (hA34.get rfl)) fun a35 hA35 _ => ?_)
      refine sq (opk_run hA35 rfl (fun _ _ hr => r_append (hA35.get rfl) (hA35.get rfl) hr) ht32 fun a36 v42 w37 hA36 _ hn39 hz40 hK41 => ?_)
      obtain ⟨r_43, rfl, ht38⟩ := hK41
      refine sq (opk_val hA36 rfl (r_assign (hA36.get rfl)) fun a44 hA44 _ => ?_)
      refine sq_end ?_
      have hA45 := hA44.keep [(6, Sl.v r_43)] ⟨rfl, trivial⟩
      refine then_normal ?_
      refine wp_ret ?_
      refine then_ret ?_
      exact res_all (vs := [Sl.v r_43]) rfl hA45 ⟨res_of_tmp hA45 rfl, trivial⟩ ht38
    · have ht33 := ht20.2 (of_decide_eq_false hc)
      clear hc
      refine wp_skip ?_
      refine then_normal ?_
      refine wp_seq ?_
      refine wp_seq ?_
      refine wp_region_lit ?_
      refine sq (opk_val hA31 rfl (r_move (hA31.get rfl)) fun a46 hA46 _ => ?_)
      refine sq (opk_val hA46 rfl (r_move (hA46.get rfl)) fun a47 hA47 _ => ?_)
      obtain ⟨hS49, ht50⟩ := ht33
      refine sq (opk_val hA47 rfl (r_addI (hA47.get rfl) (hA47.get rfl) hS49) fun a48 hA48 _ => ?_)
      refine sq (opk_val hA48 rfl (r_move (hA48.get rfl)) fun a51 hA51 _ => ?_)
      refine sq (opk_val hA51 rfl (r_cap (hA51.get rfl) Tryd.underlying45) fun a52 hA52 _ => ?_)
      refine sq (opk_val hA52 rfl (r_gtr (hA52.get rfl) (hA52.get rfl)) fun a53 hA53 _ => ?_)
      refine sq_end ?_
      have hA54 := hA53.keep [(0, Sl.v s_1), (1, .int .i64 i_2), (2, Sl.v v_3), (7, .int .i64 (v_3.n : Int)), (8, .int .i64 (s_1.n : Int)), (31, .bool (decide ((s_1.c : Int) < ((s_1.n : Int) + (v_3.n : Int)))))] ⟨rfl, rfl, rfl, rfl, rfl, rfl, trivial⟩
      refine then_normal ?_
      refine wp_cond_split (hA54.get rfl) (fun hc => ?_) (fun hc => ?_)
      · have ht55 := ht50.1 (of_decide_eq_true hc)
        clear hc
        refine wp_seq ?_
        refine wp_region_lit ?_
        refine sq (opk_val hA54 rfl (r_move (hA54.get rfl)) fun a57 hA57 _ => ?_)
        refine sq (opk_val hA57 rfl (r_move (hA57.get rfl)) fun a58 hA58 _ => ?_)
        obtain ⟨hS60, ht61⟩ := ht55
        refine sq (opk_val hA58 rfl (r_sliceH (hA58.get rfl) (hA58.get rfl) Tryd.underlying45 ti_49 hS60) fun a59 hA59 _ => ?_)
        refine sq (opk_val hA59 rfl (r_move (hA59.get rfl)) fun a62 hA62 _ => ?_)
        refine sq (opk_val hA62 rfl (r_move (hA62.get rfl)) fun a63 hA63 _ => ?_)
        obtain ⟨hS65, ht66⟩ := ht61
        refine sq (opk_val hA63 rfl (r_addI (hA63.get rfl) (hA63.get rfl) hS65) fun a64 hA64 _ => ?_)
        refine sq (opk_val hA64 rfl (r_move (hA64.get rfl)) fun a67 hA67 _ => ?_)
        obtain ⟨hS69, ht70⟩ := ht66
        refine sq (opk_val hA67 rfl (r_subI (hA67.get rfl) (hA67.get rfl) hS69) fun a68 hA68 _ => ?_)
        refine sq (opk_run hA68 rfl (fun _ _ hr => r_append (hA68.get rfl) (hA68.get rfl) hr) ht70 fun a71 v77 w72 hA71 _ hn74 hz75 hK76 => ?_)
        obtain ⟨r_78, rfl, ht73⟩ := hK76
        refine sq (opk_val hA71 rfl (r_assign (hA71.get rfl)) fun a79 hA79 _ => ?_)
        refine sq_end ?_
        have hA80 := hA79.keep [(0, Sl.v s_1), (1, .int .i64 i_2), (2, Sl.v v_3), (7, .int .i64 (v_3.n : Int)), (9, Sl.v r_78)] ⟨rfl, rfl, rfl, rfl, rfl, trivial⟩
        refine then_normal ?_
        refine wp_seq ?_
        refine wp_region_lit ?_
        refine sq (opk_val hA80 rfl (r_move (hA80.get rfl)) fun a81 hA81 _ => ?_)
        refine sq (opk_val hA81 rfl (r_move (hA81.get rfl)) fun a82 hA82 _ => ?_)
        obtain ⟨hS84, ht85⟩ := ht73
        refine sq (opk_val hA82 rfl (r_sliceL (hA82.get rfl) (hA82.get rfl) Tryd.underlying45 ti_49 hS84) fun a83 hA83 _ => ?_)
        refine sq (opk_val hA83 rfl (r_move (hA83.get rfl)) fun a86 hA86 _ => ?_)
        refine sq (opk_run hA86 rfl (fun _ _ hr => r_copy (hA86.get rfl) (hA86.get rfl) hr) ht85 fun a87 v93 w88 hA87 _ hn90 hz91 hK92 => ?_)
        obtain ⟨r_94, rfl, ht89⟩ := hK92
        refine sq_end ?_
        have hA95 := hA87.keep [(0, Sl.v s_1), (1, .int .i64 i_2), (7, .int .i64 (v_3.n : Int)), (9, Sl.v r_78)] ⟨rfl, rfl, rfl, rfl, trivial⟩
        refine then_normal ?_
        refine wp_seq ?_
        refine draw' (by kernel_rfl) fun w96 hE97 => ?_
        have hC98 : Chg [] w88 w96 := hE97
        have ht99 := ht89 w96    hC98
        obtain ⟨hS102, ht103⟩ := ht99
        obtain ⟨hS106, ht107⟩ := ht103
        obtain ⟨hS110, ht111⟩ := ht107
        refine par (D := [[], [], [], [1, 2], [0, 1, 2, 3], [], [], [5, 6], [0, 1, 2, 3, 4, 5, 6, 7]]) (S := [0, 1, 2, 3, 4, 5, 6, 7]) (F := []) (V := VL [(0, fun v _ => v = Sl.v r_78), (1, fun v _ => v = .int .i64 i_2), (2, fun v _ => v = .int .i64 (v_3.n : Int)), (3, fun v _ => v = .int .i64 (i_2 + (v_3.n : Int))), (4, fun v _ => v = Sl.v (Sl.cut r_78 4 (i_2 + (v_3.n : Int)).toNat r_78.n r_78.c)), (5, fun v _ => v = Sl.v s_1), (6, fun v _ => v = .int .i64 i_2), (7, fun v _ => v = Sl.v (Sl.cut s_1 4 i_2.toNat s_1.n s_1.c))]) hA95 (by kernel_rfl) ⟨fun _ _ _ _ h => by first | exact h | (change _ = _ at h; change _ = _; exact h), fun _ _ _ _ h => by first | exact h | (change _ = _ at h; change _ = _; exact h), fun _ _ _ _ h => by first | exact h | (change _ = _ at h; change _ = _; exact h), fun _ _ _ _ h => by first | exact h | (change _ = _ at h; change _ = _; exact h), fun _ _ _ _ h => by first | exact h | (change _ = _ at h; change _ = _; exact h), fun _ _ _ _ h => by first | exact h | (change _ = _ at h; change _ = _; exact h), fun _ _ _ _ h => by first | exact h | (change _ = _ at h; change _ = _; exact h), fun _ _ _ _ h => by first | exact h | (change _ = _ at h; change _ = _; exact h), trivial⟩ ⟨?_, ?_, ?_, ?_, ?_, ?_, ?_, ?_, trivial⟩ ?_
        · intro a w hT
          have hAp := hT.ag hA95 [(9, Sl.v r_78)] ⟨rfl, trivial⟩ (by kernel_rfl)
          exact opk_val hAp rfl (r_move (hAp.get rfl)) fun _ _ e => ⟨_, e, Chg.refl _ _, fun _ => Eq.refl _⟩
        · intro a w hT
          have hAp := hT.ag hA95 [(1, .int .i64 i_2)] ⟨rfl, trivial⟩ (by kernel_rfl)
          exact opk_val hAp rfl (r_move (hAp.get rfl)) fun _ _ e => ⟨_, e, Chg.refl _ _, fun _ => Eq.refl _⟩
        · intro a w hT
          have hAp := hT.ag hA95 [(7, .int .i64 (v_3.n : Int))] ⟨rfl, trivial⟩ (by kernel_rfl)
          exact opk_val hAp rfl (r_move (hAp.get rfl)) fun _ _ e => ⟨_, e, Chg.refl _ _, fun _ => Eq.refl _⟩
        · intro a w hT
          have hAp := hT.ag hA95 [] trivial (by kernel_rfl)
          have e100 : a.tmps.getD 47 undef = .int .i64 i_2 := hT.vals 1 rfl 47 rfl
          have hAp := hAp.add e100
          have e101 : a.tmps.getD 48 undef = .int .i64 (v_3.n : Int) := hT.vals 2 rfl 48 rfl
          have hAp := hAp.add e101
          exact opk_val hAp rfl (r_addI (hAp.get rfl) (hAp.get rfl) hS102) fun _ _ e => ⟨_, e, Chg.refl _ _, fun _ => Eq.refl _⟩
        · intro a w hT
          have hAp := hT.ag hA95 [] trivial (by kernel_rfl)
          have e104 : a.tmps.getD 46 undef = Sl.v r_78 := hT.vals 0 rfl 46 rfl
          have hAp := hAp.add e104
          have e105 : a.tmps.getD 49 undef = .int .i64 (i_2 + (v_3.n : Int)) := hT.vals 3 rfl 49 rfl
          have hAp := hAp.add e105
          exact opk_val hAp rfl (r_sliceL (hAp.get rfl) (hAp.get rfl) Tryd.underlying45 ti_49 hS106) fun _ _ e => ⟨_, e, Chg.refl _ _, fun _ => Eq.refl _⟩
        · intro a w hT
          have hAp := hT.ag hA95 [(0, Sl.v s_1)] ⟨rfl, trivial⟩ (by kernel_rfl)
          exact opk_val hAp rfl (r_move (hAp.get rfl)) fun _ _ e => ⟨_, e, Chg.refl _ _, fun _ => Eq.refl _⟩
        · intro a w hT
          have hAp := hT.ag hA95 [(1, .int .i64 i_2)] ⟨rfl, trivial⟩ (by kernel_rfl)
          exact opk_val hAp rfl (r_move (hAp.get rfl)) fun _ _ e => ⟨_, e, Chg.refl _ _, fun _ => Eq.refl _⟩
        · intro a w hT
          have hAp := hT.ag hA95 [] trivial (by kernel_rfl)
          have e108 : a.tmps.getD 51 undef = Sl.v s_1 := hT.vals 5 rfl 51 rfl
          have hAp := hAp.add e108
          have e109 : a.tmps.getD 52 undef = .int .i64 i_2 := hT.vals 6 rfl 52 rfl
          have hAp := hAp.add e109
          exact opk_val hAp rfl (r_sliceL (hAp.get rfl) (hAp.get rfl) Tryd.underlying45 ti_49 hS110) fun _ _ e => ⟨_, e, Chg.refl _ _, fun _ => Eq.refl _⟩
        · intro a112 w113 hE114 hag115 hv116
          have hA112 := hag115 [(9, Sl.v r_78)] ⟨rfl, trivial⟩ (by kernel_rfl)
          have e118 : a112.tmps.getD 50 undef = Sl.v (Sl.cut r_78 4 (i_2 + (v_3.n : Int)).toNat r_78.n r_78.c) := hv116 4 rfl 50 rfl
          have hA119 := hA112.add e118
          have e120 : a112.tmps.getD 53 undef = Sl.v (Sl.cut s_1 4 i_2.toNat s_1.n s_1.c) := hv116 7 rfl 53 rfl
          have hA121 := hA119.add e120
          have hC122 : Chg [] w96 w113 := hE114
          have ht123 := ht111 w113    hC122
          refine one (D := [[], [], [], [1, 2], [0, 1, 2, 3], [], [], [5, 6], [0, 1, 2, 3, 4, 5, 6, 7]]) (i := 8) rfl (by kernel_rfl) (opk_run hA121 rfl (fun _ _ hr => r_copy (hA121.get rfl) (hA121.get rfl) hr) ht123 fun a124 v130 w125 hA124 _ hn127 hz128 hK129 => ?_)
          obtain ⟨r_131, rfl, ht126⟩ := hK129
          refine PR_end (by kernel_rfl) ?_
          have hA132 := hA124.keep [(9, Sl.v r_78)] ⟨rfl, trivial⟩
          refine then_normal ?_
          refine wp_seq ?_
          refine wp_region_lit ?_
          refine sq (opk_val hA132 rfl (r_move (hA132.get rfl)) fun a133 hA133 _ => ?_)
          refine sq (opk_val hA133 rfl (r_assign (hA133.get rfl)) fun a134 hA134 _ => ?_)
          refine sq_end ?_
          have hA135 := hA134.keep [(6, Sl.v r_78)] ⟨rfl, trivial⟩
          refine then_normal ?_
          refine wp_ret ?_
          refine then_ret ?_
          exact res_all (vs := [Sl.v r_78]) rfl hA135 ⟨res_of_tmp hA135 rfl, trivial⟩ ht126
      · have ht56 := ht50.2 (of_decide_eq_false hc)
        clear hc
        refine wp_skip ?_
        refine then_normal ?_
        refine wp_seq ?_
        refine wp_region_lit ?_
        refine sq (opk_val hA54 rfl (r_move (hA54.get rfl)) fun a136 hA136 _ => ?_)
        refine sq (opk_val hA136 rfl (r_move (hA136.get rfl)) fun a137 hA137 _ => ?_)
        refine sq (opk_val hA137 rfl (r_move (hA137.get rfl)) fun a138 hA138 _ => ?_)
        obtain ⟨hS140, ht141⟩ := ht56
        refine sq (opk_val hA138 rfl (r_addI (hA138.get rfl) (hA138.get rfl) hS140) fun a139 hA139 _ => ?_)
        obtain ⟨hS143, ht144⟩ := ht141
        refine sq (opk_val hA139 rfl (r_sliceH (hA139.get rfl) (hA139.get rfl) Tryd.underlying45 ti_49 hS143) fun a142 hA142 _ => ?_)
        refine sq (opk_val hA142 rfl (r_assign (hA142.get rfl)) fun a145 hA145 _ => ?_)
        refine sq_end ?_
        have hA146 := hA145.keep [(0, Sl.v (Sl.cut s_1 4 0 ((s_1.n : Int) + (v_3.n : Int)).toNat s_1.c)), (1, .int .i64 i_2), (2, Sl.v v_3), (7, .int .i64 (v_3.n : Int)), (8, .int .i64 (s_1.n : Int))] ⟨rfl, rfl, rfl, rfl, rfl, trivial⟩
        refine then_normal ?_
        refine wp_seq ?_
        refine wp_seq ?_
        refine wp_region_lit ?_
        refine sq (opk_val hA146 rfl (r_move (hA146.get rfl)) fun a147 hA147 _ => ?_)
        refine sq (opk_val hA147 rfl (r_move (hA147.get rfl)) fun a148 hA148 _ => ?_)
        refine sq (opk_val hA148 rfl (r_move (hA148.get rfl)) fun a149 hA149 _ => ?_)
        refine sq (opk_val hA149 rfl (r_move (hA149.get rfl)) fun a150 hA150 _ => ?_)
        obtain ⟨hS152, ht153⟩ := ht144
        refine sq (opk_val hA150 rfl (r_addI (hA150.get rfl) (hA150.get rfl) hS152) fun a151 hA151 _ => ?_)
        obtain ⟨hS155, ht156⟩ := ht153
        refine sq (opk_val hA151 rfl (r_sliceL (hA151.get rfl) (hA151.get rfl) Tryd.underlying45 ti_49 hS155) fun a154 hA154 _ => ?_)
        obtain ⟨r_158, hx159, ht160⟩ := ht156
        refine sq (opk_val hA154 rfl (r_extern Tryd.func33 (by kernel_rfl) (by kernel_rfl) (by kernel_rfl) (by kernel_rfl) (map_arr (ml_cons (hA154.get rfl) (ml_cons (hA154.get rfl) ml_nil))) rfl hx159) fun a157 hA157 _ => ?_)
        refine sq (opk_val hA157 rfl (r_not (hA157.get rfl)) fun a161 hA161 _ => ?_)
        refine sq_end ?_
        have hA162 := hA161.keep [(0, Sl.v (Sl.cut s_1 4 0 ((s_1.n : Int) + (v_3.n : Int)).toNat s_1.c)), (1, .int .i64 i_2), (2, Sl.v v_3), (7, .int .i64 (v_3.n : Int)), (8, .int .i64 (s_1.n : Int)), (68, .bool (!r_158))] ⟨rfl, rfl, rfl, rfl, rfl, rfl, trivial⟩
        refine then_normal ?_
        refine wp_cond_split (hA162.get rfl) (fun hc => ?_) (fun hc => ?_)
        · have ht163 := ht160.1 (b_not_t hc)
          clear hc
          refine wp_seq ?_
          refine draw' (by kernel_rfl) fun w165 hE166 => ?_
          have hC167 : Chg [] w w165 := hE166
          have ht168 := ht163 w165    hC167
          obtain ⟨hS171, ht172⟩ := ht168
          obtain ⟨hS175, ht176⟩ := ht172
          obtain ⟨hS179, ht180⟩ := ht176
          refine par (D := [[], [], [], [1, 2], [0, 1, 2, 3], [], [], [5, 6], [0, 1, 2, 3, 4, 5, 6, 7]]) (S := [0, 1, 2, 3, 4, 5, 6, 7]) (F := []) (V := VL [(0, fun v _ => v = Sl.v (Sl.cut s_1 4 0 ((s_1.n : Int) + (v_3.n : Int)).toNat s_1.c)), (1, fun v _ => v = .int .i64 i_2), (2, fun v _ => v = .int .i64 (v_3.n : Int)), (3, fun v _ => v = .int .i64 (i_2 + (v_3.n : Int))), (4, fun v _ => v = Sl.v (Sl.cut (Sl.cut s_1 4 0 ((s_1.n : Int) + (v_3.n : Int)).toNat s_1.c) 4 (i_2 + (v_3.n : Int)).toNat (Sl.cut s_1 4 0 ((s_1.n : Int) + (v_3.n : Int)).toNat s_1.c).n (Sl.cut s_1 4 0 ((s_1.n : Int) + (v_3.n : Int)).toNat s_1.c).c)), (5, fun v _ => v = Sl.v (Sl.cut s_1 4 0 ((s_1.n : Int) + (v_3.n : Int)).toNat s_1.c)), (6, fun v _ => v = .int .i64 i_2), (7, fun v _ => v = Sl.v (Sl.cut (Sl.cut s_1 4 0 ((s_1.n : Int) + (v_3.n : Int)).toNat s_1.c) 4 i_2.toNat (Sl.cut s_1 4 0 ((s_1.n : Int) + (v_3.n : Int)).toNat s_1.c).n (Sl.cut s_1 4 0 ((s_1.n : Int) + (v_3.n : Int)).toNat s_1.c).c))]) hA162 (by kernel_rfl) ⟨fun _ _ _ _ h => by first | exact h | (change _ = _ at h; change _ = _; exact h), fun _ _ _ _ h => by first | exact h | (change _ = _ at h; change _ = _; exact h), fun _ _ _ _ h => by first | exact h | (change _ = _ at h; change _ = _; exact h), fun _ _ _ _ h => by first | exact h | (change _ = _ at h; change _ = _; exact h), fun _ _ _ _ h => by first | exact h | (change _ = _ at h; change _ = _; exact h), fun _ _ _ _ h => by first | exact h | (change _ = _ at h; change _ = _; exact h), fun _ _ _ _ h => by first | exact h | (change _ = _ at h; change _ = _; exact h), fun _ _ _ _ h => by first | exact h | (change _ = _ at h; change _ = _; exact h), trivial⟩ ⟨?_, ?_, ?_, ?_, ?_, ?_, ?_, ?_, trivial⟩ ?_
          · intro a w hT
            have hAp := hT.ag hA162 [(0, Sl.v (Sl.cut s_1 4 0 ((s_1.n : Int) + (v_3.n : Int)).toNat s_1.c))] ⟨rfl, trivial⟩ (by kernel_rfl)
            exact opk_val hAp rfl (r_move (hAp.get rfl)) fun _ _ e => ⟨_, e, Chg.refl _ _, fun _ => Eq.refl _⟩
          · intro a w hT
            have hAp := hT.ag hA162 [(1, .int .i64 i_2)] ⟨rfl, trivial⟩ (by kernel_rfl)
            exact opk_val hAp rfl (r_move (hAp.get rfl)) fun _ _ e => ⟨_, e, Chg.refl _ _, fun _ => Eq.refl _⟩
          · intro a w hT
            have hAp := hT.ag hA162 [(7, .int .i64 (v_3.n : Int))] ⟨rfl, trivial⟩ (by kernel_rfl)
            exact opk_val hAp rfl (r_move (hAp.get rfl)) fun _ _ e => ⟨_, e, Chg.refl _ _, fun _ => Eq.refl _⟩
          · intro a w hT
            have hAp := hT.ag hA162 [] trivial (by kernel_rfl)
            have e169 : a.tmps.getD 70 undef = .int .i64 i_2 := hT.vals 1 rfl 70 rfl
            have hAp := hAp.add e169
            have e170 : a.tmps.getD 71 undef = .int .i64 (v_3.n : Int) := hT.vals 2 rfl 71 rfl
            have hAp := hAp.add e170
            exact opk_val hAp rfl (r_addI (hAp.get rfl) (hAp.get rfl) hS171) fun _ _ e => ⟨_, e, Chg.refl _ _, fun _ => Eq.refl _⟩
          · intro a w hT
            have hAp := hT.ag hA162 [] trivial (by kernel_rfl)
            have e173 : a.tmps.getD 69 undef = Sl.v (Sl.cut s_1 4 0 ((s_1.n : Int) + (v_3.n : Int)).toNat s_1.c) := hT.vals 0 rfl 69 rfl
            have hAp := hAp.add e173
            have e174 : a.tmps.getD 72 undef = .int .i64 (i_2 + (v_3.n : Int)) := hT.vals 3 rfl 72 rfl
            have hAp := hAp.add e174
            exact opk_val hAp rfl (r_sliceL (hAp.get rfl) (hAp.get rfl) Tryd.underlying45 ti_49 hS175) fun _ _ e => ⟨_, e, Chg.refl _ _, fun _ => Eq.refl _⟩
          · intro a w hT
            have hAp := hT.ag hA162 [(0, Sl.v (Sl.cut s_1 4 0 ((s_1.n : Int) + (v_3.n : Int)).toNat s_1.c))] ⟨rfl, trivial⟩ (by kernel_rfl)
            exact opk_val hAp rfl (r_move (hAp.get rfl)) fun _ _ e => ⟨_, e, Chg.refl _ _, fun _ => Eq.refl _⟩
          · intro a w hT
            have hAp := hT.ag hA162 [(1, .int .i64 i_2)] ⟨rfl, trivial⟩ (by kernel_rfl)
            exact opk_val hAp rfl (r_move (hAp.get rfl)) fun _ _ e => ⟨_, e, Chg.refl _ _, fun _ => Eq.refl _⟩
          · intro a w hT
            have hAp := hT.ag hA162 [] trivial (by kernel_rfl)
            have e177 : a.tmps.getD 74 undef = Sl.v (Sl.cut s_1 4 0 ((s_1.n : Int) + (v_3.n : Int)).toNat s_1.c) := hT.vals 5 rfl 74 rfl
            have hAp := hAp.add e177
            have e178 : a.tmps.getD 75 undef = .int .i64 i_2 := hT.vals 6 rfl 75 rfl
            have hAp := hAp.add e178
            exact opk_val hAp rfl (r_sliceL (hAp.get rfl) (hAp.get rfl) Tryd.underlying45 ti_49 hS179) fun _ _ e => ⟨_, e, Chg.refl _ _, fun _ => Eq.refl _⟩
          · intro a181 w182 hE183 hag184 hv185
            have hA181 := hag184 [(0, Sl.v (Sl.cut s_1 4 0 ((s_1.n : Int) + (v_3.n : Int)).toNat s_1.c)), (1, .int .i64 i_2), (2, Sl.v v_3)] ⟨rfl, rfl, rfl, trivial⟩ (by kernel_rfl)
            have e187 : a181.tmps.getD 73 undef = Sl.v (Sl.cut (Sl.cut s_1 4 0 ((s_1.n : Int) + (v_3.n : Int)).toNat s_1.c) 4 (i_2 + (v_3.n : Int)).toNat (Sl.cut s_1 4 0 ((s_1.n : Int) + (v_3.n : Int)).toNat s_1.c).n (Sl.cut s_1 4 0 ((s_1.n : Int) + (v_3.n : Int)).toNat s_1.c).c) := hv185 4 rfl 73 rfl
            have hA188 := hA181.add e187
            have e189 : a181.tmps.getD 76 undef = Sl.v (Sl.cut (Sl.cut s_1 4 0 ((s_1.n : Int) + (v_3.n : Int)).toNat s_1.c) 4 i_2.toNat (Sl.cut s_1 4 0 ((s_1.n : Int) + (v_3.n : Int)).toNat s_1.c).n (Sl.cut s_1 4 0 ((s_1.n : Int) + (v_3.n : Int)).toNat s_1.c).c) := hv185 7 rfl 76 rfl
            have hA190 := hA188.add e189
            have hC191 : Chg [] w165 w182 := hE183
            have ht192 := ht180 w182    hC191
            refine one (D := [[], [], [], [1, 2], [0, 1, 2, 3], [], [], [5, 6], [0, 1, 2, 3, 4, 5, 6, 7]]) (i := 8) rfl (by kernel_rfl) (opk_run hA190 rfl (fun _ _ hr => r_copy (hA190.get rfl) (hA190.get rfl) hr) ht192 fun a193 v199 w194 hA193 _ hn196 hz197 hK198 => ?_)
            obtain ⟨r_200, rfl, ht195⟩ := hK198
            refine PR_end (by kernel_rfl) ?_
            have hA201 := hA193.keep [(0, Sl.v (Sl.cut s_1 4 0 ((s_1.n : Int) + (v_3.n : Int)).toNat s_1.c)), (1, .int .i64 i_2), (2, Sl.v v_3)] ⟨rfl, rfl, rfl, trivial⟩
            refine then_normal ?_
            refine wp_seq ?_
            refine wp_region_lit ?_
            refine sq (opk_val hA201 rfl (r_move (hA201.get rfl)) fun a202 hA202 _ => ?_)
            refine sq (opk_val hA202 rfl (r_move (hA202.get rfl)) fun a203 hA203 _ => ?_)
            obtain ⟨hS205, ht206⟩ := ht195
            refine sq (opk_val hA203 rfl (r_sliceL (hA203.get rfl) (hA203.get rfl) Tryd.underlying45 ti_49 hS205) fun a204 hA204 _ => ?_)
            refine sq (opk_val hA204 rfl (r_move (hA204.get rfl)) fun a207 hA207 _ => ?_)
            refine sq (opk_run hA207 rfl (fun _ _ hr => r_copy (hA207.get rfl) (hA207.get rfl) hr) ht206 fun a208 v214 w209 hA208 _ hn211 hz212 hK213 => ?_)
            obtain ⟨r_215, rfl, ht210⟩ := hK213
            refine sq_end ?_
            have hA216 := hA208.keep [(0, Sl.v (Sl.cut s_1 4 0 ((s_1.n : Int) + (v_3.n : Int)).toNat s_1.c))] ⟨rfl, trivial⟩
            refine then_normal ?_
            refine wp_seq ?_
            refine wp_region_lit ?_
            refine sq (opk_val hA216 rfl (r_move (hA216.get rfl)) fun a217 hA217 _ => ?_)
            refine sq (opk_val hA217 rfl (r_assign (hA217.get rfl)) fun a218 hA218 _ => ?_)
            refine sq_end ?_
            have hA219 := hA218.keep [(6, Sl.v (Sl.cut s_1 4 0 ((s_1.n : Int) + (v_3.n : Int)).toNat s_1.c))] ⟨rfl, trivial⟩
            refine then_normal ?_
            refine wp_ret ?_
            refine then_ret ?_
            exact res_all (vs := [Sl.v (Sl.cut s_1 4 0 ((s_1.n : Int) + (v_3.n : Int)).toNat s_1.c)]) rfl hA219 ⟨res_of_tmp hA219 rfl, trivial⟩ ht210
        · have ht164 := ht160.2 (b_not_f hc)
          clear hc
          refine wp_skip ?_
          refine then_normal ?_
          refine wp_seq ?_
          refine wp_region_lit ?_
          refine sq (opk_val hA162 rfl (r_move (hA162.get rfl)) fun a220 hA220 _ => ?_)
          refine sq (opk_val hA220 rfl (r_move (hA220.get rfl)) fun a221 hA221 _ => ?_)
          obtain ⟨hS223, ht224⟩ := ht164
          refine sq (opk_val hA221 rfl (r_sliceL (hA221.get rfl) (hA221.get rfl) Tryd.underlying45 ti_49 hS223) fun a222 hA222 _ => ?_)
          refine sq (opk_val hA222 rfl (r_move (hA222.get rfl)) fun a225 hA225 _ => ?_)
          refine sq (opk_run hA225 rfl (fun _ _ hr => r_copy (hA225.get rfl) (hA225.get rfl) hr) ht224 fun a226 v232 w227 hA226 _ hn229 hz230 hK231 => ?_)
          obtain ⟨r_233, rfl, ht228⟩ := hK231
          refine sq_end ?_
          have hA234 := hA226.keep [(0, Sl.v (Sl.cut s_1 4 0 ((s_1.n : Int) + (v_3.n : Int)).toNat s_1.c)), (1, .int .i64 i_2), (7, .int .i64 (v_3.n : Int))] ⟨rfl, rfl, rfl, trivial⟩
          refine then_normal ?_
          refine wp_seq ?_
          refine wp_region_lit ?_
          refine sq (opk_val hA234 rfl (r_move (hA234.get rfl)) fun a235 hA235 _ => ?_)
          refine sq (opk_val hA235 rfl (r_move (hA235.get rfl)) fun a236 hA236 _ => ?_)
          obtain ⟨hS238, ht239⟩ := ht228
          refine sq (opk_val hA236 rfl (r_sliceL (hA236.get rfl) (hA236.get rfl) Tryd.underlying45 ti_49 hS238) fun a237 hA237 _ => ?_)
          refine sq (opk_val hA237 rfl (r_move (hA237.get rfl)) fun a240 hA240 _ => ?_)
          refine sq (opk_call hA240 rfl (r_call (args := #[Sl.v (Sl.cut (Sl.cut s_1 4 0 ((s_1.n : Int) + (v_3.n : Int)).toNat s_1.c) 4 i_2.toNat (Sl.cut s_1 4 0 ((s_1.n : Int) + (v_3.n : Int)).toNat s_1.c).n (Sl.cut s_1 4 0 ((s_1.n : Int) + (v_3.n : Int)).toNat s_1.c).c), .int .i64 (v_3.n : Int)]) Tryd.func34 (by decide) rfl (map_arr (ml_cons (hA240.get rfl) (ml_cons (hA240.get rfl) ml_nil))) rfl) ht239 fun a241 v247 w242 hA241 _ hn244 hz245 hK246 => ?_)
          obtain ⟨rfl, ht243⟩ := hK246
          refine sq_end ?_
          have hA248 := hA241.keep [(0, Sl.v (Sl.cut s_1 4 0 ((s_1.n : Int) + (v_3.n : Int)).toNat s_1.c))] ⟨rfl, trivial⟩
          refine then_normal ?_
          refine wp_seq ?_
          refine wp_region_lit ?_
          refine sq (opk_val hA248 rfl (r_move (hA248.get rfl)) fun a249 hA249 _ => ?_)
          refine sq (opk_val hA249 rfl (r_assign (hA249.get rfl)) fun a250 hA250 _ => ?_)
          refine sq_end ?_
          have hA251 := hA250.keep [(6, Sl.v (Sl.cut s_1 4 0 ((s_1.n : Int) + (v_3.n : Int)).toNat s_1.c))] ⟨rfl, trivial⟩
          refine then_normal ?_
          refine wp_ret ?_
          exact res_all (vs := [Sl.v (Sl.cut s_1 4 0 ((s_1.n : Int) + (v_3.n : Int)).toNat s_1.c)]) rfl hA251 ⟨res_of_tmp hA251 rfl, trivial⟩ ht243

/-- The condition of (*strings.Builder).WriteString. -/
def strings_Builder_WriteString.vc (b_1 : Addr) (s_2 : Str) (R : Value → World → Prop) (w : World) : Prop :=
CallK Tryd.prog 35 #[.pointer (some b_1)] w [] (fun v w4 => v = .tuple #[] ∧
∃ (x_6 : Sl), (w4.cell? (b_1.add 1) = some (Sl.v x_6)) ∧
RunK Tryd.prog (Builtin.append_ #[60, 9] 60 #[Sl.v x_6, .string (Bs s_2)]) w4 [] (fun v w7 => ∃ (r_8 : Sl), v = Sl.v r_8 ∧
∃ (B_9 o_10 : Nat) (T_11 : TypeId) (cs_12 : List Value), (b_1.add 1) = ⟨B_9, o_10, none⟩ ∧ Box w7 B_9 T_11 cs_12 ∧ o_10 + 1 ≤ cs_12.length ∧ (∀ b ∈ [], b ≠ B_9) ∧
(∀ w13 : World, Chg [B_9] w7 w13 → Box w13 B_9 T_11 (putAt cs_12 o_10 [Sl.v r_8]) →
R (.tuple #[.int .i64 (s_2.length : Int), .nilIface]) w13)))
set_option maxHeartbeats 1000000 in
set_option maxRecDepth 10000 in
theorem strings_Builder_WriteString.ok (b_1 : Addr) (s_2 : Str) {R : Value → World → Prop} {w : World} (ht0 : strings_Builder_WriteString.vc b_1 s_2 R w) : Calls Tryd.prog 28 #[.pointer (some b_1), .string (Bs s_2)] w (Ret R) := by
  refine go _ Tryd.func28 Tryd.ntmps28 ht0 ?_
  refine gS <| gR <| gN ?_
  refine gN <| ge <| tn <| gS <| gR ?_
  refine gM ?_
  refine gC [] Tryd.func35 fun _ w4 => gQ <| ge <| tn <| gS <| gR ?_
  refine gM ?_
  refine gM ?_
  refine g1 r_nilCheck ?_
  refine gF 1 Tryd.underlying62 ti_60 ?_
  refine gE fun x_6 => gL Tryd.underlying60 ?_
  refine gM ?_
  refine gR2 [] r_append fun _ w7 => gE fun r_8 => gQ ?_
  refine g1 r_nilCheck ?_
  refine gF 1 Tryd.underlying62 ti_60 ?_
  refine wx [] ti_60 fun B_9 o_10 T_11 cs_12 w13 => ge <| tn <| gS <| gR ?_
  refine gM ?_
  refine g1 (fun hx0 => r_slen hx0 Tryd.underlying9) ?_
  refine gN ?_
  refine gN <| ge <| tn <| gr ?_
  exact gz2

/-- The condition of (*strings.Builder).WriteByte. -/
def strings_Builder_WriteByte.vc (b_1 : Addr) (c_2 : Int) (R : Value → World → Prop) (w : World) : Prop :=
CallK Tryd.prog 35 #[.pointer (some b_1)] w [] (fun v w4 => v = .tuple #[] ∧
∃ (x_6 : Sl), (w4.cell? (b_1.add 1) = some (Sl.v x_6)) ∧
∀ (w8 : World) (B_7 : Nat), New w4 B_7 w8 → Chg [] w4 w8 →
∀ (_ : Box w8 B_7 5 [.int .u8 c_2]),
RunK Tryd.prog (Builtin.append_ #[60, 60] 60 #[Sl.v x_6, Sl.v (Sl.mk (some ⟨B_7, 0, none⟩) 1 1)]) w8 [] (fun v w10 => ∃ (r_11 : Sl), v = Sl.v r_11 ∧
∃ (B_12 o_13 : Nat) (T_14 : TypeId) (cs_15 : List Value), (b_1.add 1) = ⟨B_12, o_13, none⟩ ∧ Box w10 B_12 T_14 cs_15 ∧ o_13 + 1 ≤ cs_15.length ∧ (∀ b ∈ [], b ≠ B_12) ∧
(∀ w16 : World, Chg [B_12] w10 w16 → Box w16 B_12 T_14 (putAt cs_15 o_13 [Sl.v r_11]) →
R (.nilIface) w16)))
set_option maxHeartbeats 1000000 in
set_option maxRecDepth 10000 in
theorem strings_Builder_WriteByte.ok (b_1 : Addr) (c_2 : Int) {R : Value → World → Prop} {w : World} (ht0 : strings_Builder_WriteByte.vc b_1 c_2 R w) : Calls Tryd.prog 30 #[.pointer (some b_1), .int .u8 c_2] w (Ret R) := by
  refine go _ Tryd.func30 Tryd.ntmps30 ht0 ?_
  refine gS <| gR <| gN <| ge <| tn <| gS <| gR ?_
  refine gM ?_
  refine gC [] Tryd.func35 fun _ w4 => gQ <| ge <| tn <| gS <| gR ?_
  refine gM ?_
  refine gM ?_
  refine g1 r_nilCheck ?_
  refine gF 1 Tryd.underlying62 ti_60 ?_
  refine gE fun x_6 => gL Tryd.underlying60 ?_
  refine gM ?_
  refine ns [.int .u8 c_2] Tryd.underlying60 ti_5 fun w8 B_7 => gT1 ?_
  refine gX 0 ?_
  refine gR2 [] r_append fun _ w10 => gE fun r_11 => gQ ?_
  refine g1 r_nilCheck ?_
  refine gF 1 Tryd.underlying62 ti_60 ?_
  refine wx [] ti_60 fun B_12 o_13 T_14 cs_15 w16 => ge <| tn <| gS <| gR ?_
  refine gN <| ge <| tn <| gr ?_
  exact gz1

/-- The condition of slices.Clone[[]topiary/api.Attrtopiary/api.Attr]. -/
def slices_Clone__api_Attr_api_Attr_.vc (s_1 : Sl) (R : Value → World → Prop) (w : World) : Prop :=
((s_1.a.isNone = true) →
R (Sl.v Sl.nil) w) ∧
((s_1.a.isNone = false) →
∀ (w6 : World) (B_5 : Nat), New w B_5 w6 → Chg [] w w6 →
∀ (_ : Box w6 B_5 28 []),
RunK Tryd.prog (Builtin.append_ #[29, 29] 29 #[Sl.v (Sl.mk (some ⟨B_5, 0, none⟩) 0 0), Sl.v s_1]) w6 [] (fun v w8 => ∃ (r_9 : Sl), v = Sl.v r_9 ∧
R (Sl.v r_9) w8))
set_option maxHeartbeats 1000000 in
set_option maxRecDepth 10000 in
theorem slices_Clone__api_Attr_api_Attr_.ok (s_1 : Sl) {R : Value → World → Prop} {w : World} (ht0 : slices_Clone__api_Attr_api_Attr_.vc s_1 R w) : Calls Tryd.prog 32 #[Sl.v s_1] w (Ret R) := by
  refine go _ Tryd.func32 Tryd.ntmps32 ht0 ?_
  refine gS <| gR <| gN <| ge <| tn <| gS <| gS <| gR ?_
  refine gM ?_
  refine g2 (fun hx0 hx1 => r_slnil hx0 hx1 Tryd.underlying29) <| ge <| tn ?_
  refine gi id id ?_ ?_
  · refine gS <| gR <| gN <| ge <| tn <| gr <| tr ?_
    exact gz1
  · refine gk <| tn <| gS <| gR <| gn (cs := []) (fun B => .slice (some ⟨B, 0, none⟩) 0 0) (fun _ _ => r_buildSlice0 Tryd.underlying29 ti_28) fun w6 B_5 => ?_
    refine gM <| gT1 ?_
    refine gX 0 ?_
    refine gR2 [] r_append fun _ w8 => gE fun r_9 => gQ ?_
    refine gN <| ge <| tn <| gr ?_
    exact gz1

/-- The condition of (*strings.Builder).copyCheck. -/
def strings_Builder_copyCheck.vc (b_1 : Addr) (R : Value → World → Prop) (w : World) : Prop :=
∃ (x_2 : Option Addr), (w.cell? (b_1.add 0) = some (.pointer x_2)) ∧
(((Option.isNone x_2) = true) →
RunK Tryd.prog (convert 59 74 (.pointer (some b_1))) w [] (fun v w4 => ∃ (r_5 : Option Addr), v = .pointer r_5 ∧
RunK Tryd.prog (convert 74 59 (.pointer r_5)) w4 [] (fun v w6 => ∃ (r_7 : Option Addr), v = .pointer r_7 ∧
∃ (B_8 o_9 : Nat) (T_10 : TypeId) (cs_11 : List Value), (b_1.add 0) = ⟨B_8, o_9, none⟩ ∧ Box w6 B_8 T_10 cs_11 ∧ o_9 + 1 ≤ cs_11.length ∧ (∀ b ∈ [], b ≠ B_8) ∧
(∀ w12 : World, Chg [B_8] w6 w12 → Box w12 B_8 T_10 (putAt cs_11 o_9 [.pointer r_7]) →
R (.tuple #[]) w12)))) ∧
(((Option.isNone x_2) = false) →
∃ (x_14 : Option Addr), (w.cell? (b_1.add 0) = some (.pointer x_14)) ∧
∃ r_15 : Bool, ((binOp .neq 59 (.pointer x_14) (.pointer (some b_1))).run Tryd.prog w = .ok (.bool r_15) w) ∧
((r_15 = true) →
False) ∧
((r_15 = false) →
R (.tuple #[]) w))
set_option maxHeartbeats 1000000 in
set_option maxRecDepth 10000 in
theorem strings_Builder_copyCheck.ok (b_1 : Addr) {R : Value → World → Prop} {w : World} (ht0 : strings_Builder_copyCheck.vc b_1 R w) : Calls Tryd.prog 35 #[.pointer (some b_1)] w (Ret R) := by
  refine go _ Tryd.func35 Tryd.ntmps35 ht0 ?_
  refine gS <| gR <| gM ?_
  refine g1 r_nilCheck ?_
  refine gF 0 Tryd.underlying62 ti_59 ?_
  refine gE fun x_2 => gL Tryd.underlying59 ?_
  refine g2 (fun hx0 hx1 => r_pnil (o := x_2) hx0 hx1 Tryd.underlying59) <| ge <| tn ?_
  refine gi id id ?_ ?_
  · refine gR <| gM ?_
    refine gM ?_
    refine gR1 [] r_convR fun _ w4 => gE fun r_5 => gQ ?_
    refine ev (v := .pointer r_5) (fun _ s => r_extern (m := Extern.AbiNoEscape.same) Tryd.func38 (by kernel_rfl) (by kernel_rfl) (by kernel_rfl) (by kernel_rfl) (map_arr (ml_cons (s.ag.opv rfl) ml_nil)) rfl rfl) ?_
    refine gR1 [] r_convR fun _ w6 => gE fun r_7 => gQ ?_
    refine g1 r_nilCheck ?_
    refine gF 0 Tryd.underlying62 ti_59 ?_
    refine wx [] ti_59 fun B_8 o_9 T_10 cs_11 w12 => ge <| gze ?_
    exact gz0
  · refine gS <| gR <| gM ?_
    refine g1 r_nilCheck ?_
    refine gF 0 Tryd.underlying62 ti_59 ?_
    refine gE fun x_14 => gL Tryd.underlying59 ?_
    refine gM ?_
    refine gE fun r_15 => gA fun hx => ev (fun _ s => r_ptrN (s.ag.opv rfl) (s.ag.opv rfl) hx) <| ge <| tn ?_
    refine gi id id ?_ ?_
    · exact gNo
    · exact gk <| gze <| gz0

end Go.Proofs.YtcploacnonngaaaDoor
