/-
  PRINTED BY PROGRAM: for each function its condition (vc), and that this suffices (ok).
-/
import Derived.Test.YtcploacnonngaaaDoorQFormatClearsGT
namespace Go.Proofs.YtcploacnonngaaaDoor
open Go.RowKit
set_option linter.unusedVariables false

/-- The condition of slices.Delete[[]topiary/format.slottopiary/format.slot]. -/
def slices_Delete__format_slot_format_slot_.vc (s_1 : Sl) (i_2 : Int) (j_3 : Int) (R : Value → World → Prop) (w : World) : Prop :=
((0 : Int) ≤ i_2 ∧ (i_2 : Int) ≤ j_3 ∧ j_3 ≤ (s_1.n : Int) ∧ (s_1.n : Int) ≤ (s_1.c : Int)) ∧
((i_2 = j_3) →
R (Sl.v s_1) w) ∧
((¬ (i_2 = j_3)) →
∀ (w9 : World), Chg [] w w9 →
((0 : Int) ≤ i_2 ∧ i_2 ≤ (s_1.c : Int)) ∧
((0 : Int) ≤ j_3 ∧ j_3 ≤ (s_1.n : Int)) ∧
∀ (w10 : World), Chg [] w9 w10 →
RunK Tryd.prog (Builtin.append_ #[45, 45] 45 #[Sl.v (Sl.cut s_1 4 0 i_2.toNat s_1.c), Sl.v (Sl.cut s_1 4 j_3.toNat s_1.n s_1.c)]) w10 [] (fun v w11 => ∃ (r_12 : Sl), v = Sl.v r_12 ∧
((0 : Int) ≤ (r_12.n : Int) ∧ ((r_12.n : Int) : Int) ≤ (s_1.n : Int) ∧ (s_1.n : Int) ≤ (r_12.c : Int)) ∧
∀ (w13 : World), Chg [] w11 w13 →
RunN Tryd.prog (Builtin.clear_ #[45] 0 #[Sl.v (Sl.cut r_12 4 (r_12.n : Int).toNat (s_1.n : Int).toNat r_12.c)]) w13 [] (fun w15 =>
R (Sl.v r_12) w15)))
set_option maxHeartbeats 1000000 in
set_option maxRecDepth 10000 in
theorem slices_Delete__format_slot_format_slot_.ok (s_1 : Sl) (i_2 : Int) (j_3 : Int) {R : Value → World → Prop} {w : World} (ht0 : slices_Delete__format_slot_format_slot_.vc s_1 i_2 j_3 R w) : Calls Tryd.prog 23 #[Sl.v s_1, .int .i64 i_2, .int .i64 j_3] w (Ret R) := by
  refine go _ Tryd.func23 Tryd.ntmps23 ht0 ?_
  refine gS <| gR <| gN <| ge <| tn <| gS <| gR ?_
  refine gM ?_
  refine gM ?_
  refine gM ?_
  refine gM ?_
  refine g1 (fun hx0 => r_len hx0 Tryd.underlying45) ?_
  refine g4s (fun hx0 hx1 hx2 hx3 h => r_slice3 hx0 hx1 hx2 hx3 Tryd.underlying45 ti_49 h) <| ge <| tn <| gS <| gS <| gR ?_
  refine gM ?_
  refine gM ?_
  refine g2 r_eql <| ge <| tn ?_
  refine gi dT dF ?_ ?_
  · refine gS <| gR <| gM ?_
    refine gN <| ge <| tn <| gr <| tr ?_
    exact gz1
  · refine gk <| tn <| gS <| gR <| gM ?_
    refine g1 (fun hx0 => r_len hx0 Tryd.underlying45) ?_
    refine gN <| ge <| tn <| gS ?_
    refine gD fun w9 => gT0 ?_
    refine gW 0 6 [] ?_
    refine gM ?_
    refine gM ?_
    refine g2s (fun hx0 hx1 h => r_sliceH hx0 hx1 Tryd.underlying45 ti_49 h) ?_
    refine gM ?_
    refine gM ?_
    refine g2s (fun hx0 hx1 h => r_sliceL hx0 hx1 Tryd.underlying45 ti_49 h) <| geT fun w10 => ?_
    refine gO 6 <| gT0 ?_
    refine gR2 [] r_append fun _ w11 => gE fun r_12 => gQ <| geO ?_
    refine gW 7 1 [] ?_
    refine gN <| geT fun w13 => ?_
    refine gZ <| tn <| gS <| gR ?_
    refine gM ?_
    refine gM ?_
    refine g1 (fun hx0 => r_len hx0 Tryd.underlying45) ?_
    refine gM ?_
    refine g3s (fun hx0 hx1 hx2 h => r_slice2 hx0 hx1 hx2 Tryd.underlying45 ti_49 h) <| gT0 ?_
    refine gN1 [] r_clear fun w15 => ge <| tn <| gS <| gR ?_
    refine gM ?_
    refine gN <| ge <| tn <| gr ?_
    exact gz1

/-- The condition of slices.IndexFunc[[]topiary/format.slottopiary/format.slot]. -/
def slices_IndexFunc__format_slot_format_slot_.vc (s_1 : Sl) (f_2 : Value) (R : Value → World → Prop) (w : World) : Prop :=
∃ (J_7 : Int → World → Prop) (mu_8 : Int → World → Nat),
J_7 0 w ∧
(∀ (x_5 : Int) (w6 : World), J_7 x_5 w6 →
((x_5 < (s_1.n : Int)) →
((0 : Int) ≤ x_5 ∧ x_5 < (s_1.n : Int)) ∧ ∃ p_23 : Addr, s_1.a = some p_23 ∧
∃ (x_24_e_ID : Int) (x_24_e_Name : Str) (x_24_e_Attrs : Sl) (x_24_marker : Bool), (Cells w6 (p_23.add (x_5.toNat * 4)) [.int .i64 x_24_e_ID, .string (Bs x_24_e_Name), Sl.v x_24_e_Attrs, .bool x_24_marker]) ∧
∃ (f_25 : FuncId) (fst_26 cap_27 : Array Value), (f_2 = .func (.func f_25) fst_26 cap_27) ∧
Body Tryd.prog f_25 ∧
CallK Tryd.prog f_25 (fst_26 ++ #[.agg #[.int .i64 x_24_e_ID, .string (Bs x_24_e_Name), Sl.v x_24_e_Attrs, .bool x_24_marker]] ++ cap_27) w6 [] (fun v w29 => ∃ (r_28 : Bool), v = .bool r_28 ∧
((r_28 = true) →
R (.int .i64 x_5) w29) ∧
((r_28 = false) →
(I64 (x_5 + 1)) ∧
J_7 (x_5 + 1) w29 ∧ mu_8 (x_5 + 1) w29 < mu_8 x_5 w6))) ∧
((¬ (x_5 < (s_1.n : Int))) →
R (.int .i64 (-1)) w6))
set_option maxHeartbeats 1000000 in
set_option maxRecDepth 10000 in
theorem slices_IndexFunc__format_slot_format_slot_.ok (s_1 : Sl) (f_2 : Value) {R : Value → World → Prop} {w : World} (ht0 : slices_IndexFunc__format_slot_format_slot_.vc s_1 f_2 R w) : Calls Tryd.prog 25 #[Sl.v s_1, f_2] w (Ret R) := by
  refine go _ Tryd.func25 Tryd.ntmps25 ht0 ?_
  refine gS <| gR <| gN <| ge <| tn <| gS <| gS <| gR ?_
  refine gM ?_
  refine g1 (fun hx0 => r_len hx0 Tryd.underlying45) ?_
  refine gM <| ge <| tn <| gb <| gE fun _ => gE fun mu => ?_
  refine l1 mu (fun x_5 => [(8, .int .i64 x_5)]) [(0, _), (1, _), (7, _)] (fun _ => []) [] [] fun x_5 w6 _ => gS <| gR ?_
  refine g2 r_lss <| ge <| tn <| gS ?_
  refine gi dT dF ?_ ?_
  · refine gk <| tn <| gS <| gb <| gS <| gR <| gM ?_
    refine gN <| ge <| tn <| gS <| gR ?_
    refine gM ?_
    refine gM ?_
    refine gM ?_
    refine gI1 Tryd.underlying45 ti_49 fun p_23 => ?_
    refine gE fun x_24_e_ID => gE fun x_24_e_Name => gE fun x_24_e_Attrs => gE fun x_24_marker => gLN Tryd.underlying49 ti_49 <| gE fun f_25 => gE fun fst_26 => gE fun cap_27 => gA fun hp => ?_
    refine gA fun hb => gCo [] hb (fun _ h => ((h.opv rfl).trans hp)) fun _ w29 => gE fun r_28 => gQ <| ge <| tn ?_
    refine gi id id ?_ ?_
    · refine gS <| gR <| gM ?_
      refine gN <| ge <| tn <| gr <| br <| tr <| tr <| br <| tr ?_
      exact gz1
    · refine gk <| bn <| tn <| gR <| g2s r_addI ?_
      refine gM <| ge ?_
      exact k1 []
  · refine gx <| te <| te <| bh <| tn <| gS <| gR <| gN <| ge <| tn <| gr ?_
    exact gz1

/-- The condition of (*strings.Builder).WriteString. -/
def strings_Builder_WriteString.vc (b_1 : Addr) (s_2 : Str) (R : Value → World → Prop) (w : World) : Prop :=
CallK Tryd.prog 35 #[.pointer (some b_1)] w [] (fun v w4 => v = .tuple #[] ∧
∃ (x_6 : Sl), (w4.cell? (b_1.add 1) = some (Sl.v x_6)) ∧
RunK Tryd.prog (Builtin.append_ #[60, 9] 60 #[Sl.v x_6, .string (Bs s_2)]) w4 [] (fun v w7 => ∃ (r_8 : Sl), v = Sl.v r_8 ∧
∃ (B_9 o_10 : Nat) (T_11 : TypeId) (cs_12 : List Value), (b_1.add 1) = ⟨B_9, o_10, none⟩ ∧ Box w7 B_9 T_11 cs_12 ∧ o_10 + 1 ≤ cs_12.length ∧ (∀ b ∈ [], b ≠ B_9) ∧
(∀ w13 : World, Chg [B_9] w7 w13 → Box w13 B_9 T_11 (putAt cs_12 o_10 [Sl.v r_8]) →
R (.tuple #[.int .i64 (s_2.length : Int), .nilIface]) w13)))
set_option maxHeartbeats 1000000 in
set_option maxRecDepth 10000 in
theorem strings_Builder_WriteString.ok (b_1 : Addr) (s_2 : Str) {R : Value → World → Prop} {w : World} (ht0 : strings_Builder_WriteString.vc b_1 s_2 R w) : Calls Tryd.prog 28 #[.pointer (some b_1), .string (Bs s_2)] w (Ret R) := by
  refine go _ Tryd.func28 Tryd.ntmps28 ht0 ?_
  refine gS <| gR <| gN ?_
  refine gN <| ge <| tn <| gS <| gR ?_
  refine gM ?_
  refine gC [] Tryd.func35 fun _ w4 => gQ <| ge <| tn <| gS <| gR ?_
  refine gM ?_
  refine gM ?_
  refine g1 r_nilCheck ?_
  refine gF 1 Tryd.underlying62 ti_60 ?_
  refine gE fun x_6 => gL Tryd.underlying60 ?_
  refine gM ?_
  refine gR2 [] r_append fun _ w7 => gE fun r_8 => gQ ?_
  refine g1 r_nilCheck ?_
  refine gF 1 Tryd.underlying62 ti_60 ?_
  refine wx [] ti_60 fun B_9 o_10 T_11 cs_12 w13 => ge <| tn <| gS <| gR ?_
  refine gM ?_
  refine g1 (fun hx0 => r_slen hx0 Tryd.underlying9) ?_
  refine gN ?_
  refine gN <| ge <| tn <| gr ?_
  exact gz2

/-- The condition of (*strings.Builder).WriteByte. -/
def strings_Builder_WriteByte.vc (b_1 : Addr) (c_2 : Int) (R : Value → World → Prop) (w : World) : Prop :=
CallK Tryd.prog 35 #[.pointer (some b_1)] w [] (fun v w4 => v = .tuple #[] ∧
∃ (x_6 : Sl), (w4.cell? (b_1.add 1) = some (Sl.v x_6)) ∧
∀ (w8 : World) (B_7 : Nat), New w4 B_7 w8 → Chg [] w4 w8 →
∀ (_ : Box w8 B_7 5 [.int .u8 c_2]),
RunK Tryd.prog (Builtin.append_ #[60, 60] 60 #[Sl.v x_6, Sl.v (Sl.mk (some ⟨B_7, 0, none⟩) 1 1)]) w8 [] (fun v w10 => ∃ (r_11 : Sl), v = Sl.v r_11 ∧
∃ (B_12 o_13 : Nat) (T_14 : TypeId) (cs_15 : List Value), (b_1.add 1) = ⟨B_12, o_13, none⟩ ∧ Box w10 B_12 T_14 cs_15 ∧ o_13 + 1 ≤ cs_15.length ∧ (∀ b ∈ [], b ≠ B_12) ∧
(∀ w16 : World, Chg [B_12] w10 w16 → Box w16 B_12 T_14 (putAt cs_15 o_13 [Sl.v r_11]) →
R (.nilIface) w16)))
set_option maxHeartbeats 1000000 in
set_option maxRecDepth 10000 in
theorem strings_Builder_WriteByte.ok (b_1 : Addr) (c_2 : Int) {R : Value → World → Prop} {w : World} (ht0 : strings_Builder_WriteByte.vc b_1 c_2 R w) : Calls Tryd.prog 30 #[.pointer (some b_1), .int .u8 c_2] w (Ret R) := by
  refine go _ Tryd.func30 Tryd.ntmps30 ht0 ?_
  refine gS <| gR <| gN <| ge <| tn <| gS <| gR ?_
  refine gM ?_
  refine gC [] Tryd.func35 fun _ w4 => gQ <| ge <| tn <| gS <| gR ?_
  refine gM ?_
  refine gM ?_
  refine g1 r_nilCheck ?_
  refine gF 1 Tryd.underlying62 ti_60 ?_
  refine gE fun x_6 => gL Tryd.underlying60 ?_
  refine gM ?_
  refine ns [.int .u8 c_2] Tryd.underlying60 ti_5 fun w8 B_7 => gT1 ?_
  refine gX 0 ?_
  refine gR2 [] r_append fun _ w10 => gE fun r_11 => gQ ?_
  refine g1 r_nilCheck ?_
  refine gF 1 Tryd.underlying62 ti_60 ?_
  refine wx [] ti_60 fun B_12 o_13 T_14 cs_15 w16 => ge <| tn <| gS <| gR ?_
  refine gN <| ge <| tn <| gr ?_
  exact gz1

/-- The condition of slices.Clone[[]topiary/api.Attrtopiary/api.Attr]. -/
def slices_Clone__api_Attr_api_Attr_.vc (s_1 : Sl) (R : Value → World → Prop) (w : World) : Prop :=
((s_1.a.isNone = true) →
R (Sl.v Sl.nil) w) ∧
((s_1.a.isNone = false) →
∀ (w6 : World) (B_5 : Nat), New w B_5 w6 → Chg [] w w6 →
∀ (_ : Box w6 B_5 28 []),
RunK Tryd.prog (Builtin.append_ #[29, 29] 29 #[Sl.v (Sl.mk (some ⟨B_5, 0, none⟩) 0 0), Sl.v s_1]) w6 [] (fun v w8 => ∃ (r_9 : Sl), v = Sl.v r_9 ∧
R (Sl.v r_9) w8))
set_option maxHeartbeats 1000000 in
set_option maxRecDepth 10000 in
theorem slices_Clone__api_Attr_api_Attr_.ok (s_1 : Sl) {R : Value → World → Prop} {w : World} (ht0 : slices_Clone__api_Attr_api_Attr_.vc s_1 R w) : Calls Tryd.prog 32 #[Sl.v s_1] w (Ret R) := by
  refine go _ Tryd.func32 Tryd.ntmps32 ht0 ?_
  refine gS <| gR <| gN <| ge <| tn <| gS <| gS <| gR ?_
  refine gM ?_
  refine g2 (fun hx0 hx1 => r_slnil hx0 hx1 Tryd.underlying29) <| ge <| tn ?_
  refine gi id id ?_ ?_
  · refine gS <| gR <| gN <| ge <| tn <| gr <| tr ?_
    exact gz1
  · refine gk <| tn <| gS <| gR <| gn (cs := []) (fun B => .slice (some ⟨B, 0, none⟩) 0 0) (fun _ _ => r_buildSlice0 Tryd.underlying29 ti_28) fun w6 B_5 => ?_
    refine gM <| gT1 ?_
    refine gX 0 ?_
    refine gR2 [] r_append fun _ w8 => gE fun r_9 => gQ ?_
    refine gN <| ge <| tn <| gr ?_
    exact gz1

/-- The condition of (*strings.Builder).copyCheck. -/
def strings_Builder_copyCheck.vc (b_1 : Addr) (R : Value → World → Prop) (w : World) : Prop :=
∃ (x_2 : Option Addr), (w.cell? (b_1.add 0) = some (.pointer x_2)) ∧
(((Option.isNone x_2) = true) →
RunK Tryd.prog (convert 59 74 (.pointer (some b_1))) w [] (fun v w4 => ∃ (r_5 : Option Addr), v = .pointer r_5 ∧
RunK Tryd.prog (convert 74 59 (.pointer r_5)) w4 [] (fun v w6 => ∃ (r_7 : Option Addr), v = .pointer r_7 ∧
∃ (B_8 o_9 : Nat) (T_10 : TypeId) (cs_11 : List Value), (b_1.add 0) = ⟨B_8, o_9, none⟩ ∧ Box w6 B_8 T_10 cs_11 ∧ o_9 + 1 ≤ cs_11.length ∧ (∀ b ∈ [], b ≠ B_8) ∧
(∀ w12 : World, Chg [B_8] w6 w12 → Box w12 B_8 T_10 (putAt cs_11 o_9 [.pointer r_7]) →
R (.tuple #[]) w12)))) ∧
(((Option.isNone x_2) = false) →
∃ (x_14 : Option Addr), (w.cell? (b_1.add 0) = some (.pointer x_14)) ∧
∃ r_15 : Bool, ((binOp .neq 59 (.pointer x_14) (.pointer (some b_1))).run Tryd.prog w = .ok (.bool r_15) w) ∧
((r_15 = true) →
False) ∧
((r_15 = false) →
R (.tuple #[]) w))
set_option maxHeartbeats 1000000 in
set_option maxRecDepth 10000 in
theorem strings_Builder_copyCheck.ok (b_1 : Addr) {R : Value → World → Prop} {w : World} (ht0 : strings_Builder_copyCheck.vc b_1 R w) : Calls Tryd.prog 35 #[.pointer (some b_1)] w (Ret R) := by
  refine go _ Tryd.func35 Tryd.ntmps35 ht0 ?_
  refine gS <| gR <| gM ?_
  refine g1 r_nilCheck ?_
  refine gF 0 Tryd.underlying62 ti_59 ?_
  refine gE fun x_2 => gL Tryd.underlying59 ?_
  refine g2 (fun hx0 hx1 => r_pnil (o := x_2) hx0 hx1 Tryd.underlying59) <| ge <| tn ?_
  refine gi id id ?_ ?_
  · refine gR <| gM ?_
    refine gM ?_
    refine gR1 [] r_convR fun _ w4 => gE fun r_5 => gQ ?_
    refine ev (v := .pointer r_5) (fun _ s => r_extern (m := Extern.AbiNoEscape.same) Tryd.func38 (by kernel_rfl) (by kernel_rfl) (by kernel_rfl) (by kernel_rfl) (map_arr (ml_cons (s.ag.opv rfl) ml_nil)) rfl rfl) ?_
    refine gR1 [] r_convR fun _ w6 => gE fun r_7 => gQ ?_
    refine g1 r_nilCheck ?_
    refine gF 0 Tryd.underlying62 ti_59 ?_
    refine wx [] ti_59 fun B_8 o_9 T_10 cs_11 w12 => ge <| gze ?_
    exact gz0
  · refine gS <| gR <| gM ?_
    refine g1 r_nilCheck ?_
    refine gF 0 Tryd.underlying62 ti_59 ?_
    refine gE fun x_14 => gL Tryd.underlying59 ?_
    refine gM ?_
    refine gE fun r_15 => gA fun hx => ev (fun _ s => r_ptrN (s.ag.opv rfl) (s.ag.opv rfl) hx) <| ge <| tn ?_
    refine gi id id ?_ ?_
    · exact gNo
    · exact gk <| gze <| gz0

end Go.Proofs.YtcploacnonngaaaDoor
