/-
  PRINTED BY PROGRAM: the types that the walks of this seat meet.
-/
import Derived.Test.YtpacegmmbabhjaaProg
import Derived.Test.YtpacegmmbabhjaaVcI
import Derived.KernelRfl
namespace Go.Proofs.Ytpacegmmbabhjaa
open Go.RowKit

theorem ti_3 : TI Try.prog 3 (.int .i64 0) 1 8 := TI.of (by kernel_rfl)
theorem ti_5 : TI Try.prog 5 (.int .u8 0) 1 1 := TI.of (by kernel_rfl)
theorem ti_9 : TI Try.prog 9 (.string (Bs ([] : Str))) 1 16 := TI.of (by kernel_rfl)
theorem ti_23 : TI Try.prog 23 (Sl.v Sl.nil) 1 24 := TI.of (by kernel_rfl)
theorem ti_24 : TI Try.prog 24 (Sl.v Sl.nil) 1 24 := TI.of (by kernel_rfl)
theorem ti_26 : TI Try.prog 26 (.agg #[.int .i64 0, .string (Bs ([] : Str)), .string (Bs ([] : Str)), Sl.v Sl.nil, Sl.v Sl.nil]) 5 88 := TI.of (by kernel_rfl)
theorem ti_33 : TI Try.prog 33 (.agg #[.string (Bs ([] : Str)), .string (Bs ([] : Str))]) 2 32 := TI.of (by kernel_rfl)
theorem ti_60 : TI Try.prog 60 (.agg #[.string (Bs ([] : Str)), .string (Bs ([] : Str)), .string (Bs ([] : Str)), .string (Bs ([] : Str))]) 4 64 := TI.of (by kernel_rfl)
theorem pl_26 : ∀ w, ((#[{ name := "Kind", type := 3, offset := 0, embedded := false, tag := "", pkgPath := "", byteOffset := 0 }, { name := "Name", type := 9, offset := 1, embedded := false, tag := "", pkgPath := "", byteOffset := 8 }, { name := "Text", type := 9, offset := 2, embedded := false, tag := "", pkgPath := "", byteOffset := 24 }, { name := "Attrs", type := 23, offset := 3, embedded := false, tag := "", pkgPath := "", byteOffset := 40 }, { name := "Kids", type := 24, offset := 4, embedded := false, tag := "", pkgPath := "", byteOffset := 64 }] : Array Field).mapM fun (f : Field) => (do pure (f.offset, ← sizeOf f.type) : Sem (Nat × Nat))).run Try.prog w = .ok #[(0, 1), (1, 1), (2, 1), (3, 1), (4, 1)] w := fun w => by kernel_rfl
theorem pl_33 : ∀ w, ((#[{ name := "Name", type := 9, offset := 0, embedded := false, tag := "", pkgPath := "", byteOffset := 0 }, { name := "Value", type := 9, offset := 1, embedded := false, tag := "", pkgPath := "", byteOffset := 16 }] : Array Field).mapM fun (f : Field) => (do pure (f.offset, ← sizeOf f.type) : Sem (Nat × Nat))).run Try.prog w = .ok #[(0, 1), (1, 1)] w := fun w => by kernel_rfl
theorem eq_33 (p0 : Str) (p1 : Str) (q0 : Str) (q1 : Str) : EqA Try.prog 33 #[.string (Bs p0), .string (Bs p1)] #[.string (Bs q0), .string (Bs q1)] (decide (p0 = q0 ∧ p1 = q1)) := EqA.of (fs := [{ name := "Name", type := 9, offset := 0, embedded := false, tag := "", pkgPath := "", byteOffset := 0 }, { name := "Value", type := 9, offset := 1, embedded := false, tag := "", pkgPath := "", byteOffset := 16 }]) (by kernel_rfl) (by kernel_rfl) (by kernel_rfl) (by kernel_rfl) (fe_str (by decide) Try.underlying9 rfl rfl (fe_str (by decide) Try.underlying9 rfl rfl (fe_nil _ _))) (by simp [Bool.and_assoc])

end Go.Proofs.Ytpacegmmbabhjaa
