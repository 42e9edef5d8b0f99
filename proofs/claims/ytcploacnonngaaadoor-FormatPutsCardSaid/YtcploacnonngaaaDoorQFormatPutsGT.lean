/-
  PRINTED BY PROGRAM: the types that the walks of this seat meet.
-/
import Derived.Test.YtcploacnonngaaaDoorProg
import Derived.Test.YtcploacnonngaaaDoorQFormatPuts1
import Derived.KernelRfl
namespace Go.Proofs.YtcploacnonngaaaDoor
open Go.RowKit

theorem ti_3 : TI Tryd.prog 3 (.int .i64 0) 1 8 := TI.of (by kernel_rfl)

theorem ti_4 : TI Tryd.prog 4 (.bool false) 1 1 := TI.of (by kernel_rfl)

theorem ti_5 : TI Tryd.prog 5 (.int .u8 0) 1 1 := TI.of (by kernel_rfl)

theorem ti_9 : TI Tryd.prog 9 (.string (Bs ([] : Str))) 1 16 := TI.of (by kernel_rfl)

theorem ti_28 : TI Tryd.prog 28 (.agg #[.string (Bs ([] : Str)), .string (Bs ([] : Str))]) 2 32 := TI.of (by kernel_rfl)

theorem ti_29 : TI Tryd.prog 29 (Sl.v Sl.nil) 1 24 := TI.of (by kernel_rfl)

theorem ti_31 : TI Tryd.prog 31 (.agg #[.int .i64 0, .string (Bs ([] : Str)), Sl.v Sl.nil]) 3 48 := TI.of (by kernel_rfl)

theorem ti_45 : TI Tryd.prog 45 (Sl.v Sl.nil) 1 24 := TI.of (by kernel_rfl)

theorem ti_47 : TI Tryd.prog 47 (.agg #[Sl.v Sl.nil]) 1 24 := TI.of (by kernel_rfl)

theorem ti_49 : TI Tryd.prog 49 (.agg #[.int .i64 0, .string (Bs ([] : Str)), Sl.v Sl.nil, .bool false]) 4 56 := TI.of (by kernel_rfl)

theorem ti_51 : TI Tryd.prog 51 (.agg #[.string (Bs ([] : Str)), .string (Bs ([] : Str))]) 2 32 := TI.of (by kernel_rfl)

theorem ti_59 : TI Tryd.prog 59 (.pointer none) 1 8 := TI.of (by kernel_rfl)

theorem ti_60 : TI Tryd.prog 60 (Sl.v Sl.nil) 1 24 := TI.of (by kernel_rfl)

theorem ti_62 : TI Tryd.prog 62 (.agg #[.pointer none, Sl.v Sl.nil]) 2 32 := TI.of (by kernel_rfl)

theorem ti_63 : TI Tryd.prog 63 (.agg #[.string (Bs ([] : Str)), .string (Bs ([] : Str))]) 2 32 := TI.of (by kernel_rfl)

theorem pl_31 : ∀ w, ((#[{ name := "ID", type := 3, offset := 0, embedded := false, tag := "", pkgPath := "", byteOffset := 0 }, { name := "Name", type := 9, offset := 1, embedded := false, tag := "", pkgPath := "", byteOffset := 8 }, { name := "Attrs", type := 29, offset := 2, embedded := false, tag := "", pkgPath := "", byteOffset := 24 }] : Array Field).mapM fun (f : Field) => (do pure (f.offset, ← sizeOf f.type) : Sem (Nat × Nat))).run Tryd.prog w = .ok #[(0, 1), (1, 1), (2, 1)] w := fun w => by kernel_rfl

theorem pl_47 : ∀ w, ((#[{ name := "l", type := 45, offset := 0, embedded := false, tag := "", pkgPath := "topiary/format", byteOffset := 0 }] : Array Field).mapM fun (f : Field) => (do pure (f.offset, ← sizeOf f.type) : Sem (Nat × Nat))).run Tryd.prog w = .ok #[(0, 1)] w := fun w => by kernel_rfl

theorem pl_49 : ∀ w, ((#[{ name := "e", type := 31, offset := 0, embedded := false, tag := "", pkgPath := "topiary/format", byteOffset := 0 }, { name := "marker", type := 4, offset := 3, embedded := false, tag := "", pkgPath := "topiary/format", byteOffset := 48 }] : Array Field).mapM fun (f : Field) => (do pure (f.offset, ← sizeOf f.type) : Sem (Nat × Nat))).run Tryd.prog w = .ok #[(0, 3), (3, 1)] w := fun w => by kernel_rfl

theorem pl_51 : ∀ w, ((#[{ name := "name", type := 9, offset := 0, embedded := false, tag := "", pkgPath := "topiary/format", byteOffset := 0 }, { name := "attrs", type := 9, offset := 1, embedded := false, tag := "", pkgPath := "topiary/format", byteOffset := 16 }] : Array Field).mapM fun (f : Field) => (do pure (f.offset, ← sizeOf f.type) : Sem (Nat × Nat))).run Tryd.prog w = .ok #[(0, 1), (1, 1)] w := fun w => by kernel_rfl

theorem eq_51 (p0 : Str) (p1 : Str) (q0 : Str) (q1 : Str) : EqA Tryd.prog 51 #[.string (Bs p0), .string (Bs p1)] #[.string (Bs q0), .string (Bs q1)] (decide (p0 = q0 ∧ p1 = q1)) := EqA.of (fs := [{ name := "name", type := 9, offset := 0, embedded := false, tag := "", pkgPath := "topiary/format", byteOffset := 0 }, { name := "attrs", type := 9, offset := 1, embedded := false, tag := "", pkgPath := "topiary/format", byteOffset := 16 }]) (by kernel_rfl) (by kernel_rfl) (by kernel_rfl) (by kernel_rfl) (fe_str (by decide) Tryd.underlying9 rfl rfl (fe_str (by decide) Tryd.underlying9 rfl rfl (fe_nil _ _))) (by simp [Bool.and_assoc])

end Go.Proofs.YtcploacnonngaaaDoor
