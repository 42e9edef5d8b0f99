/-
  PRINTED BY PROGRAM: the types that the walks of this seat meet.
-/
import Derived.Test.YtghmgfkdnolcdaaProg
import Derived.Test.YtghmgfkdnolcdaaQApplyNone0
import Derived.KernelRfl
namespace Go.Proofs.Ytghmgfkdnolcdaa
open Go.RowKit
theorem ti_3 : TI Try.prog 3 (.int .i64 0) 1 8 := TI.of (by kernel_rfl)
theorem ti_9 : TI Try.prog 9 (.string (Bs ([] : Str))) 1 16 := TI.of (by kernel_rfl)
theorem ti_26 : TI Try.prog 26 (Sl.v Sl.nil) 1 24 := TI.of (by kernel_rfl)
theorem ti_27 : TI Try.prog 27 (Sl.v Sl.nil) 1 24 := TI.of (by kernel_rfl)
theorem ti_29 : TI Try.prog 29 (.agg #[.int .i64 0, .string (Bs ([] : Str)), .string (Bs ([] : Str)), Sl.v Sl.nil, Sl.v Sl.nil]) 5 88 := TI.of (by kernel_rfl)
theorem ti_36 : TI Try.prog 36 (Sl.v Sl.nil) 1 24 := TI.of (by kernel_rfl)
theorem ti_48 : TI Try.prog 48 (.agg #[.int .i64 0, .int .i64 0, .int .i64 0, .int .i64 0, .int .i64 0, .string (Bs ([] : Str)), .string (Bs ([] : Str))]) 7 72 := TI.of (by kernel_rfl)
theorem ti_65 : TI Try.prog 65 (.agg #[.string (Bs ([] : Str)), .string (Bs ([] : Str))]) 2 32 := TI.of (by kernel_rfl)
theorem ti_68 : TI Try.prog 68 (.map none) 1 8 := TI.of (by kernel_rfl)
theorem ti_69 : TI Try.prog 69 (Sl.v Sl.nil) 1 24 := TI.of (by kernel_rfl)
theorem ti_71 : TI Try.prog 71 (.agg #[Sl.v Sl.nil, .map none]) 2 32 := TI.of (by kernel_rfl)
theorem ti_76 : TI Try.prog 76 (.agg #[.int .i64 0, .int .i64 0, .int .i64 0, .string (Bs ([] : Str)), .string (Bs ([] : Str)), Sl.v Sl.nil, Sl.v Sl.nil, Sl.v Sl.nil]) 8 128 := TI.of (by kernel_rfl)
theorem ti_110 : TI Try.prog 110 (.nilFunc) 1 8 := TI.of (by kernel_rfl)
theorem ti_111 : TI Try.prog 111 (.nilFunc) 1 8 := TI.of (by kernel_rfl)
theorem ti_113 : TI Try.prog 113 (.agg #[.nilFunc, .nilFunc]) 2 16 := TI.of (by kernel_rfl)
theorem ti_114 : TI Try.prog 114 (.agg #[.nilFunc, .nilFunc, .nilFunc, .nilFunc, .nilFunc, .nilFunc, .nilFunc, .nilFunc, .nilFunc, .nilFunc, .nilFunc, .nilFunc, .nilFunc, .nilFunc]) 14 112 := TI.of (by kernel_rfl)
theorem pl_29 : ∀ w, ((#[{ name := "Kind", type := 3, offset := 0, embedded := false, tag := "", pkgPath := "", byteOffset := 0 }, { name := "Name", type := 9, offset := 1, embedded := false, tag := "", pkgPath := "", byteOffset := 8 }, { name := "Text", type := 9, offset := 2, embedded := false, tag := "", pkgPath := "", byteOffset := 24 }, { name := "Attrs", type := 26, offset := 3, embedded := false, tag := "", pkgPath := "", byteOffset := 40 }, { name := "Kids", type := 27, offset := 4, embedded := false, tag := "", pkgPath := "", byteOffset := 64 }] : Array Field).mapM fun (f : Field) => (do pure (f.offset, ← sizeOf f.type) : Sem (Nat × Nat))).run Try.prog w = .ok #[(0, 1), (1, 1), (2, 1), (3, 1), (4, 1)] w := fun w => by kernel_rfl
theorem pl_48 : ∀ w, ((#[{ name := "Kind", type := 3, offset := 0, embedded := false, tag := "", pkgPath := "", byteOffset := 0 }, { name := "ID", type := 3, offset := 1, embedded := false, tag := "", pkgPath := "", byteOffset := 8 }, { name := "Parent", type := 3, offset := 2, embedded := false, tag := "", pkgPath := "", byteOffset := 16 }, { name := "At", type := 3, offset := 3, embedded := false, tag := "", pkgPath := "", byteOffset := 24 }, { name := "What", type := 3, offset := 4, embedded := false, tag := "", pkgPath := "", byteOffset := 32 }, { name := "Name", type := 9, offset := 5, embedded := false, tag := "", pkgPath := "", byteOffset := 40 }, { name := "Text", type := 9, offset := 6, embedded := false, tag := "", pkgPath := "", byteOffset := 56 }] : Array Field).mapM fun (f : Field) => (do pure (f.offset, ← sizeOf f.type) : Sem (Nat × Nat))).run Try.prog w = .ok #[(0, 1), (1, 1), (2, 1), (3, 1), (4, 1), (5, 1), (6, 1)] w := fun w => by kernel_rfl
theorem pl_65 : ∀ w, ((#[{ name := "Name", type := 9, offset := 0, embedded := false, tag := "", pkgPath := "", byteOffset := 0 }, { name := "Value", type := 9, offset := 1, embedded := false, tag := "", pkgPath := "", byteOffset := 16 }] : Array Field).mapM fun (f : Field) => (do pure (f.offset, ← sizeOf f.type) : Sem (Nat × Nat))).run Try.prog w = .ok #[(0, 1), (1, 1)] w := fun w => by kernel_rfl
theorem pl_71 : ∀ w, ((#[{ name := "l", type := 69, offset := 0, embedded := false, tag := "", pkgPath := "topiary/dom", byteOffset := 0 }, { name := "at", type := 68, offset := 1, embedded := false, tag := "", pkgPath := "topiary/dom", byteOffset := 24 }] : Array Field).mapM fun (f : Field) => (do pure (f.offset, ← sizeOf f.type) : Sem (Nat × Nat))).run Try.prog w = .ok #[(0, 1), (1, 1)] w := fun w => by kernel_rfl
theorem pl_76 : ∀ w, ((#[{ name := "id", type := 3, offset := 0, embedded := false, tag := "", pkgPath := "topiary/dom", byteOffset := 0 }, { name := "parent", type := 3, offset := 1, embedded := false, tag := "", pkgPath := "topiary/dom", byteOffset := 8 }, { name := "t", type := 29, offset := 2, embedded := false, tag := "", pkgPath := "topiary/dom", byteOffset := 16 }, { name := "kids", type := 36, offset := 7, embedded := false, tag := "", pkgPath := "topiary/dom", byteOffset := 104 }] : Array Field).mapM fun (f : Field) => (do pure (f.offset, ← sizeOf f.type) : Sem (Nat × Nat))).run Try.prog w = .ok #[(0, 1), (1, 1), (2, 5), (7, 1)] w := fun w => by kernel_rfl
theorem pl_113 : ∀ w, ((#[{ name := "do", type := 110, offset := 0, embedded := false, tag := "", pkgPath := "topiary/apply", byteOffset := 0 }, { name := "need", type := 111, offset := 1, embedded := false, tag := "", pkgPath := "topiary/apply", byteOffset := 8 }] : Array Field).mapM fun (f : Field) => (do pure (f.offset, ← sizeOf f.type) : Sem (Nat × Nat))).run Try.prog w = .ok #[(0, 1), (1, 1)] w := fun w => by kernel_rfl
end Go.Proofs.Ytghmgfkdnolcdaa
