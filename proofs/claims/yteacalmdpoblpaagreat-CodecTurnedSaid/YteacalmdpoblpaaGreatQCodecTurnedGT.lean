/-
  PRINTED BY PROGRAM: the types that the walks of this seat meet.
-/
import Derived.Test.YteacalmdpoblpaaGreatProg
import Derived.Test.YteacalmdpoblpaaGreatQCodecTurned0
import Derived.KernelRfl
namespace Go.Proofs.YteacalmdpoblpaaGreat
open Go.RowKit

theorem ti_3 : TI Tryz.prog 3 (.int .i64 0) 1 8 := TI.of (by kernel_rfl)

theorem ti_4 : TI Tryz.prog 4 (.bool false) 1 1 := TI.of (by kernel_rfl)

theorem ti_5 : TI Tryz.prog 5 (.int .u8 0) 1 1 := TI.of (by kernel_rfl)

theorem ti_9 : TI Tryz.prog 9 (.string (Bs ([] : Str))) 1 16 := TI.of (by kernel_rfl)

theorem ti_22 : TI Tryz.prog 22 (.int .u64 0) 1 8 := TI.of (by kernel_rfl)

theorem ti_27 : TI Tryz.prog 27 (Sl.v Sl.nil) 1 24 := TI.of (by kernel_rfl)

theorem ti_36 : TI Tryz.prog 36 (Sl.v Sl.nil) 1 24 := TI.of (by kernel_rfl)

theorem ti_37 : TI Tryz.prog 37 (Sl.v Sl.nil) 1 24 := TI.of (by kernel_rfl)

theorem ti_39 : TI Tryz.prog 39 (.agg #[.int .i64 0, .string (Bs ([] : Str)), .string (Bs ([] : Str)), Sl.v Sl.nil, Sl.v Sl.nil]) 5 88 := TI.of (by kernel_rfl)

theorem ti_59 : TI Tryz.prog 59 (.agg #[.int .i64 0, .int .i64 0, .int .i64 0, .int .i64 0, .int .i64 0, .string (Bs ([] : Str)), .string (Bs ([] : Str))]) 7 72 := TI.of (by kernel_rfl)

theorem ti_65 : TI Tryz.prog 65 (.agg #[.int .u64 0, .int .u64 0]) 2 16 := TI.of (by kernel_rfl)

theorem ti_66 : TI Tryz.prog 66 (.agg #[.int .u8 0, .int .u8 0, .int .u8 0, .int .u8 0, .int .u8 0, .int .u8 0, .int .u8 0, .int .u8 0]) 8 8 := TI.of (by kernel_rfl)

theorem ti_73 : TI Tryz.prog 73 (.agg #[Sl.v Sl.nil, .int .i64 0, .bool false]) 3 40 := TI.of (by kernel_rfl)

theorem ti_91 : TI Tryz.prog 91 (.agg #[.string (Bs ([] : Str)), .string (Bs ([] : Str))]) 2 32 := TI.of (by kernel_rfl)

theorem ti_94 : TI Tryz.prog 94 (.nilFunc) 1 8 := TI.of (by kernel_rfl)

theorem ti_96 : TI Tryz.prog 96 (.agg #[.nilFunc, .nilFunc]) 2 16 := TI.of (by kernel_rfl)

theorem ti_97 : TI Tryz.prog 97 (.agg #[.nilFunc, .nilFunc, .nilFunc, .nilFunc, .nilFunc, .nilFunc, .nilFunc, .nilFunc, .nilFunc, .nilFunc, .nilFunc, .nilFunc, .nilFunc, .nilFunc]) 14 112 := TI.of (by kernel_rfl)

theorem pl_39 : ∀ w, ((#[{ name := "Kind", type := 3, offset := 0, embedded := false, tag := "", pkgPath := "", byteOffset := 0 }, { name := "Name", type := 9, offset := 1, embedded := false, tag := "", pkgPath := "", byteOffset := 8 }, { name := "Text", type := 9, offset := 2, embedded := false, tag := "", pkgPath := "", byteOffset := 24 }, { name := "Attrs", type := 36, offset := 3, embedded := false, tag := "", pkgPath := "", byteOffset := 40 }, { name := "Kids", type := 37, offset := 4, embedded := false, tag := "", pkgPath := "", byteOffset := 64 }] : Array Field).mapM fun (f : Field) => (do pure (f.offset, ← sizeOf f.type) : Sem (Nat × Nat))).run Tryz.prog w = .ok #[(0, 1), (1, 1), (2, 1), (3, 1), (4, 1)] w := fun w => by kernel_rfl

theorem pl_59 : ∀ w, ((#[{ name := "Kind", type := 3, offset := 0, embedded := false, tag := "", pkgPath := "", byteOffset := 0 }, { name := "ID", type := 3, offset := 1, embedded := false, tag := "", pkgPath := "", byteOffset := 8 }, { name := "Parent", type := 3, offset := 2, embedded := false, tag := "", pkgPath := "", byteOffset := 16 }, { name := "At", type := 3, offset := 3, embedded := false, tag := "", pkgPath := "", byteOffset := 24 }, { name := "What", type := 3, offset := 4, embedded := false, tag := "", pkgPath := "", byteOffset := 32 }, { name := "Name", type := 9, offset := 5, embedded := false, tag := "", pkgPath := "", byteOffset := 40 }, { name := "Text", type := 9, offset := 6, embedded := false, tag := "", pkgPath := "", byteOffset := 56 }] : Array Field).mapM fun (f : Field) => (do pure (f.offset, ← sizeOf f.type) : Sem (Nat × Nat))).run Tryz.prog w = .ok #[(0, 1), (1, 1), (2, 1), (3, 1), (4, 1), (5, 1), (6, 1)] w := fun w => by kernel_rfl

theorem pl_73 : ∀ w, ((#[{ name := "b", type := 27, offset := 0, embedded := false, tag := "", pkgPath := "topiary/codec", byteOffset := 0 }, { name := "at", type := 3, offset := 1, embedded := false, tag := "", pkgPath := "topiary/codec", byteOffset := 24 }, { name := "bad", type := 4, offset := 2, embedded := false, tag := "", pkgPath := "topiary/codec", byteOffset := 32 }] : Array Field).mapM fun (f : Field) => (do pure (f.offset, ← sizeOf f.type) : Sem (Nat × Nat))).run Tryz.prog w = .ok #[(0, 1), (1, 1), (2, 1)] w := fun w => by kernel_rfl

theorem pl_96 : ∀ w, ((#[{ name := "do", type := 93, offset := 0, embedded := false, tag := "", pkgPath := "topiary/apply", byteOffset := 0 }, { name := "need", type := 94, offset := 1, embedded := false, tag := "", pkgPath := "topiary/apply", byteOffset := 8 }] : Array Field).mapM fun (f : Field) => (do pure (f.offset, ← sizeOf f.type) : Sem (Nat × Nat))).run Tryz.prog w = .ok #[(0, 1), (1, 1)] w := fun w => by kernel_rfl

end Go.Proofs.YteacalmdpoblpaaGreat
