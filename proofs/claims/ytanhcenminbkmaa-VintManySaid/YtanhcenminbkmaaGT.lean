/-
  PRINTED BY PROGRAM: the types that the walks of this seat meet.
-/
import Derived.Test.YtanhcenminbkmaaProg
import Derived.Test.YtanhcenminbkmaaVcF
import Derived.KernelRfl
namespace Go.Proofs.Ytanhcenminbkmaa
open Go.RowKit

theorem ti_5 : TI Try.prog 5 (.int .u8 0) 1 1 := TI.of (by kernel_rfl)
theorem ti_31 : TI Try.prog 31 (.int .u64 0) 1 8 := TI.of (by kernel_rfl)

end Go.Proofs.Ytanhcenminbkmaa
