/-
  PRINTED BY PROGRAM: for each function its condition (vc), and that this suffices (ok).
-/
import Derived.Test.YtcploacnonngaaaDoorQFormatClearsGT
namespace Go.Proofs.YtcploacnonngaaaDoor
open Go.RowKit
set_option linter.unusedVariables false

/-- The condition of topiary/topiarylaw13.within. -/
def law13_within.vc (l_1 : Sl) (v_2 : Int) (R : Value → World → Prop) (w : World) : Prop :=
∃ (J_7 : Int → World → Prop) (mu_8 : Int → World → Nat),
J_7 0 w ∧
(∀ (i_5 : Int) (w6 : World), J_7 i_5 w6 →
((i_5 < (l_1.n : Int)) →
((0 : Int) ≤ i_5 ∧ i_5 < (l_1.n : Int)) ∧ ∃ p_20 : Addr, l_1.a = some p_20 ∧
∃ (x_21 : Int), (w6.cell? (p_20.add (i_5.toNat * 1)) = some (.int .i64 x_21)) ∧
CallK Tryd.prog 7 #[.int .i64 x_21, .int .i64 10] w6 [] (fun v w23 => ∃ (r_22 : Int), v = .int .i64 r_22 ∧
CallK Tryd.prog 7 #[.int .i64 v_2, .int .i64 10] w23 [] (fun v w25 => ∃ (r_24 : Int), v = .int .i64 r_24 ∧
((r_22 = r_24) →
R (.bool true) w25) ∧
((¬ (r_22 = r_24)) →
(I64 (i_5 + 1)) ∧
J_7 (i_5 + 1) w25 ∧ mu_8 (i_5 + 1) w25 < mu_8 i_5 w6)))) ∧
((¬ (i_5 < (l_1.n : Int))) →
R (.bool false) w6))
set_option maxHeartbeats 1000000 in
set_option maxRecDepth 10000 in
theorem law13_within.ok (l_1 : Sl) (v_2 : Int) {R : Value → World → Prop} {w : World} (ht0 : law13_within.vc l_1 v_2 R w) : Calls Tryd.prog 15 #[Sl.v l_1, .int .i64 v_2] w (Ret R) := by
  refine go _ Tryd.func15 Tryd.ntmps15 ht0 ?_
  refine gS <| gR <| gN <| ge <| tn <| gS <| gS <| gR ?_
  refine gN <| ge <| tn <| gb <| gE fun _ => gE fun mu => ?_
  refine l1 mu (fun i_5 => [(5, .int .i64 i_5)]) [(0, _), (1, _)] (fun _ => []) [] [] fun i_5 w6 _ => gS <| gS <| gR ?_
  refine gM ?_
  refine gM ?_
  refine g1 (fun hx0 => r_len hx0 Tryd.underlying22) ?_
  refine g2 r_lss <| ge <| tn ?_
  refine gi dT dF ?_ ?_
  · refine gk <| tn <| gS <| gb <| gS <| gR <| gM ?_
    refine gM ?_
    refine gI1 Tryd.underlying22 ti_3 fun p_20 => ?_
    refine gE fun x_21 => gL Tryd.underlying3 ?_
    refine gC [] Tryd.func7 fun _ w23 => gE fun r_22 => gQ ?_
    refine gM ?_
    refine gC [] Tryd.func7 fun _ w25 => gE fun r_24 => gQ ?_
    refine g2 r_eql <| ge <| tn ?_
    refine gi dT dF ?_ ?_
    · refine gS <| gR <| gN <| ge <| tn <| gr <| br <| tr <| tr <| br <| tr ?_
      exact gz1
    · refine gk <| bn <| tn <| gR <| gM ?_
      refine g2s r_addI ?_
      refine gN <| ge ?_
      exact k1 []
  · refine gx <| te <| te <| bh <| tn <| gS <| gR <| gN <| ge <| tn <| gr ?_
    exact gz1

end Go.Proofs.YtcploacnonngaaaDoor
