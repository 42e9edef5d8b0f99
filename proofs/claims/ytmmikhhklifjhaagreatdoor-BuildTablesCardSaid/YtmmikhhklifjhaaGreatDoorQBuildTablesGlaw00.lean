/-
  PRINTED BY PROGRAM: for each function its condition (vc), and that this suffices (ok).
-/
import Derived.Test.YtmmikhhklifjhaaGreatDoorQBuildTablesGT
namespace Go.Proofs.YtmmikhhklifjhaaGreatDoor
open Go.RowKit
set_option linter.unusedVariables false

/-- The condition of topiary/topiarylaw00.Place. -/
def law00_Place.vc (v_1 : Int) (n_2 : Int) (R : Value → World → Prop) (w : World) : Prop :=
(n_2 ≠ 0) ∧
(((v_1.tmod n_2) < 0) →
(I64 ((v_1.tmod n_2) + n_2)) ∧
R (.int .i64 ((v_1.tmod n_2) + n_2)) w) ∧
((¬ ((v_1.tmod n_2) < 0)) →
R (.int .i64 (v_1.tmod n_2)) w)
set_option maxHeartbeats 1000000 in
set_option maxRecDepth 10000 in
theorem law00_Place.ok (v_1 : Int) (n_2 : Int) {R : Value → World → Prop} {w : World} (ht0 : law00_Place.vc v_1 n_2 R w) : Calls Tryz.prog 20 #[.int .i64 v_1, .int .i64 n_2] w (Ret R) := by
  refine go _ Tryz.func20 Tryz.ntmps20 ht0 ?_
  refine gS <| gR <| gN <| ge <| tn <| gS <| gR ?_
  refine gM ?_
  refine gM ?_
  refine g2s r_rem ?_
  refine gN <| ge <| tn <| gS <| gS <| gR ?_
  refine gM ?_
  refine g2 r_lss <| ge <| tn ?_
  refine gi dT dF ?_ ?_
  · refine gR <| gM ?_
    refine gM ?_
    refine g2s r_addI ?_
    refine gN <| ge <| tn <| gS <| gR ?_
    refine gM ?_
    refine gN <| ge <| tn <| gr ?_
    exact gz1
  · refine gk <| tn <| gS <| gR <| gM ?_
    refine gN <| ge <| tn <| gr ?_
    exact gz1

end Go.Proofs.YtmmikhhklifjhaaGreatDoor
