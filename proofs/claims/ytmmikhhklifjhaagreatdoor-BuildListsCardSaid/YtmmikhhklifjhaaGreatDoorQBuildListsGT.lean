/-
  PRINTED BY PROGRAM: the types that the walks of this seat meet.
-/
import Derived.Test.YtmmikhhklifjhaaGreatDoorProg
import Derived.Test.YtmmikhhklifjhaaGreatDoorQBuildLists3
import Derived.KernelRfl
namespace Go.Proofs.YtmmikhhklifjhaaGreatDoor
open Go.RowKit

theorem ti_9 : TI Tryz.prog 9 (.string (Bs ([] : Str))) 1 16 := TI.of (by kernel_rfl)

end Go.Proofs.YtmmikhhklifjhaaGreatDoor
