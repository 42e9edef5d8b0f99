/-
  PRINTED BY PROGRAM: for each function its condition (vc), and that this suffices (ok).
-/
import Derived.Test.YtenokfdkckhhiaaGreatDoorQBuildNestsGT
namespace Go.Proofs.YtenokfdkckhhiaaGreatDoor
open Go.RowKit
set_option linter.unusedVariables false
set_option maxHeartbeats 1000000
set_option maxRecDepth 10000
def law00_Place.vc (b : Int) (a : Int) (R : Value → World → Prop) (w : World) : Prop :=
(a ≠ 0) ∧
(((b.tmod a) < 0) →
(I64 ((b.tmod a) + a)) ∧
R (.int .i64 ((b.tmod a) + a)) w) ∧
((¬ ((b.tmod a) < 0)) →
R (.int .i64 (b.tmod a)) w)
theorem law00_Place.ok (b : Int) (a : Int) {R : Value → World → Prop} {w : World} (c : law00_Place.vc b a R w) : Calls Tryz.prog 15 #[.int .i64 b,.int .i64 a] w (Ret R) := by
 refine go _ Tryz.func15 Tryz.ntmps15 c ?_
 refine gS <| gR <| gN <| ge <| tn <| gS <| gR ?_
 refine gM ?_
 refine gM ?_
 refine g2s r_rem ?_
 refine gN <| ge <| tn <| gS <| gS <| gR ?_
 refine gM ?_
 refine g2 r_lss <| ge <| tn ?_
 refine gi dT dF ?_ ?_
 ·refine gR <| gM ?_
  refine gM ?_
  refine g2s r_addI ?_
  refine gN <| ge <| tn <| gS <| gR ?_
  refine gM ?_
  refine gN <| ge <| tn <| gr ?_
  exact gz1
 ·refine gk <| tn <| gS <| gR <| gM ?_
  refine gN <| ge <| tn <| gr ?_
  exact gz1
end Go.Proofs.YtenokfdkckhhiaaGreatDoor
