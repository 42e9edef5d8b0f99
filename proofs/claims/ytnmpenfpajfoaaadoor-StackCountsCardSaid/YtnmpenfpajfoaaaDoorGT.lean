/-
  PRINTED BY PROGRAM: the types that the walks of this seat meet.
-/
import Derived.Test.YtnmpenfpajfoaaaDoorProg
import Derived.Test.YtnmpenfpajfoaaaDoorVcI
import Derived.KernelRfl
namespace Go.Proofs.YtnmpenfpajfoaaaDoor
open Go.RowKit

theorem ti_3 : TI Tryd.prog 3 (.int .i64 0) 1 8 := TI.of (by kernel_rfl)
theorem ti_4 : TI Tryd.prog 4 (.bool false) 1 1 := TI.of (by kernel_rfl)
theorem ti_5 : TI Tryd.prog 5 (.int .u8 0) 1 1 := TI.of (by kernel_rfl)
theorem ti_9 : TI Tryd.prog 9 (.string (Bs ([] : Str))) 1 16 := TI.of (by kernel_rfl)
theorem ti_30 : TI Tryd.prog 30 (.agg #[.string (Bs ([] : Str)), .string (Bs ([] : Str)), .string (Bs ([] : Str)), .string (Bs ([] : Str)), .string (Bs ([] : Str)), .string (Bs ([] : Str)), .string (Bs ([] : Str)), .string (Bs ([] : Str)), .string (Bs ([] : Str)), .string (Bs ([] : Str))]) 10 160 := TI.of (by kernel_rfl)
theorem ti_31 : TI Tryd.prog 31 (.agg #[.bool false, .bool false, .bool false, .bool false, .bool false]) 5 5 := TI.of (by kernel_rfl)
theorem ti_37 : TI Tryd.prog 37 (.agg #[.string (Bs ([] : Str)), .string (Bs ([] : Str)), .string (Bs ([] : Str)), .string (Bs ([] : Str)), .string (Bs ([] : Str)), .string (Bs ([] : Str))]) 6 96 := TI.of (by kernel_rfl)
theorem ti_43 : TI Tryd.prog 43 (.agg #[.string (Bs ([] : Str)), .string (Bs ([] : Str)), .string (Bs ([] : Str)), .string (Bs ([] : Str)), .string (Bs ([] : Str)), .string (Bs ([] : Str)), .string (Bs ([] : Str)), .string (Bs ([] : Str)), .string (Bs ([] : Str))]) 9 144 := TI.of (by kernel_rfl)
theorem ti_50 : TI Tryd.prog 50 (.int .u32 0) 1 4 := TI.of (by kernel_rfl)
theorem ti_53 : TI Tryd.prog 53 (Sl.v Sl.nil) 1 24 := TI.of (by kernel_rfl)
theorem ti_54 : TI Tryd.prog 54 (Sl.v Sl.nil) 1 24 := TI.of (by kernel_rfl)
theorem ti_57 : TI Tryd.prog 57 (.int .u16 0) 1 2 := TI.of (by kernel_rfl)
theorem ti_59 : TI Tryd.prog 59 (.agg #[.int .u16 0, .int .u16 0, .int .u16 0]) 3 6 := TI.of (by kernel_rfl)
theorem ti_62 : TI Tryd.prog 62 (.agg #[.int .u32 0, .int .u32 0, .int .u32 0]) 3 12 := TI.of (by kernel_rfl)

end Go.Proofs.YtnmpenfpajfoaaaDoor
