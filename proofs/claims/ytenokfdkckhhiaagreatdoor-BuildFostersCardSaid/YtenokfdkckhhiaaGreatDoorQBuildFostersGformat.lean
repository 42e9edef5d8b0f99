/-
  PRINTED BY PROGRAM: for each function its condition (vc), and that this suffices (ok).
-/
import Derived.Test.YtenokfdkckhhiaaGreatDoorQBuildFostersGT
namespace Go.Proofs.YtenokfdkckhhiaaGreatDoor
open Go.RowKit
set_option linter.unusedVariables false
set_option maxHeartbeats 1000000
set_option maxRecDepth 10000
def format_New.vc  (R : Value → World → Prop) (w : World) : Prop :=
∀ (a : World) (b : Nat),New w b a → Chg [] w a →
∀ (_ : Box a b 73 [Sl.v Sl.nil]),
R (.pointer (some (⟨b,0,none⟩ : Addr))) a
theorem format_New.ok  {R : Value → World → Prop} {w : World} (c : format_New.vc  R w) : Calls Tryz.prog 19 #[] w (Ret R) := by
 refine go _ Tryz.func19 Tryz.ntmps19 c ?_
 refine gS <| gR <| gN <| ge <| tn <| gS <| gR ?_
 refine gbu ti_73 Tryz.underlying73 pl_73 (OPs.of rfl) ?_
 refine nb fun a b => ?_
 refine gN <| ge <| tn <| gr <| gT1 ?_
 refine gX 0 ?_
 exact gz1
end Go.Proofs.YtenokfdkckhhiaaGreatDoor
