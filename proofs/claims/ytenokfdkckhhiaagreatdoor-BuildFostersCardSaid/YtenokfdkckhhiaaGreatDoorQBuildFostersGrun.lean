/-
  PRINTED BY PROGRAM: for each function its condition (vc), and that this suffices (ok).
-/
import Derived.Test.YtenokfdkckhhiaaGreatDoorQBuildFostersGT
namespace Go.Proofs.YtenokfdkckhhiaaGreatDoor
open Go.RowKit
set_option linter.unusedVariables false
set_option maxHeartbeats 1000000
set_option maxRecDepth 10000
def runes_Blank.vc (a : Int) (R : Value → World → Prop) (w : World) : Prop :=
R (.bool ((((decide (a = 9)) || (decide (a = 10))) || (decide (a = 12))) || (decide (a = 32)))) w
theorem runes_Blank.ok (a : Int) {R : Value → World → Prop} {w : World} (b : runes_Blank.vc a R w) : Calls Tryz.prog 124 #[.int .u8 a] w (Ret R) := by
 refine go _ Tryz.func124 Tryz.ntmps124 b ?_
 refine gS <| gR <| gN <| ge <| tn <| gS <| gR ?_
 refine gM ?_
 refine g2 r_eql ?_
 refine gM ?_
 refine G1 r_move ?_
 refine G2 r_eql ?_
 refine gpo ?_
 refine gM ?_
 refine G1 r_move ?_
 refine G2 r_eql ?_
 refine gpo ?_
 refine gM ?_
 refine G1 r_move ?_
 refine G2 r_eql ?_
 refine gpo ?_
 refine gN <| ge <| tn <| gr ?_
 exact gz1
end Go.Proofs.YtenokfdkckhhiaaGreatDoor
