/-
  PRINTED BY PROGRAM: the types that the walks of this seat meet.
-/
import Derived.Test.YteacalmdpoblpaaProg
import Derived.Test.YteacalmdpoblpaaQCodecAll0
import Derived.KernelRfl
namespace Go.Proofs.Yteacalmdpoblpaa
open Go.RowKit

theorem ti_3 : TI Try.prog 3 (.int .i64 0) 1 8 := TI.of (by kernel_rfl)

theorem ti_4 : TI Try.prog 4 (.bool false) 1 1 := TI.of (by kernel_rfl)

theorem ti_5 : TI Try.prog 5 (.int .u8 0) 1 1 := TI.of (by kernel_rfl)

theorem ti_9 : TI Try.prog 9 (.string (Bs ([] : Str))) 1 16 := TI.of (by kernel_rfl)

theorem ti_22 : TI Try.prog 22 (.int .u64 0) 1 8 := TI.of (by kernel_rfl)

theorem ti_24 : TI Try.prog 24 (Sl.v Sl.nil) 1 24 := TI.of (by kernel_rfl)

theorem ti_42 : TI Try.prog 42 (.agg #[.int .i64 0, .int .i64 0, .int .i64 0, .int .i64 0, .int .i64 0, .string (Bs ([] : Str)), .string (Bs ([] : Str))]) 7 72 := TI.of (by kernel_rfl)

theorem ti_50 : TI Try.prog 50 (.agg #[.int .u64 0, .int .u64 0]) 2 16 := TI.of (by kernel_rfl)

theorem ti_51 : TI Try.prog 51 (.agg #[.int .u8 0, .int .u8 0, .int .u8 0, .int .u8 0, .int .u8 0, .int .u8 0, .int .u8 0, .int .u8 0]) 8 8 := TI.of (by kernel_rfl)

theorem ti_63 : TI Try.prog 63 (.agg #[Sl.v Sl.nil, .int .i64 0, .bool false]) 3 40 := TI.of (by kernel_rfl)

theorem ti_70 : TI Try.prog 70 (.agg #[Sl.v Sl.nil, .int .i64 0, .bool false]) 3 40 := TI.of (by kernel_rfl)

theorem ti_76 : TI Try.prog 76 (.nilFunc) 1 8 := TI.of (by kernel_rfl)

theorem ti_78 : TI Try.prog 78 (.agg #[.nilFunc, .nilFunc]) 2 16 := TI.of (by kernel_rfl)

theorem ti_79 : TI Try.prog 79 (.agg #[.nilFunc, .nilFunc, .nilFunc, .nilFunc, .nilFunc, .nilFunc, .nilFunc, .nilFunc, .nilFunc, .nilFunc, .nilFunc, .nilFunc, .nilFunc, .nilFunc]) 14 112 := TI.of (by kernel_rfl)

theorem pl_42 : ∀ w, ((#[{ name := "Kind", type := 3, offset := 0, embedded := false, tag := "", pkgPath := "", byteOffset := 0 }, { name := "ID", type := 3, offset := 1, embedded := false, tag := "", pkgPath := "", byteOffset := 8 }, { name := "Parent", type := 3, offset := 2, embedded := false, tag := "", pkgPath := "", byteOffset := 16 }, { name := "At", type := 3, offset := 3, embedded := false, tag := "", pkgPath := "", byteOffset := 24 }, { name := "What", type := 3, offset := 4, embedded := false, tag := "", pkgPath := "", byteOffset := 32 }, { name := "Name", type := 9, offset := 5, embedded := false, tag := "", pkgPath := "", byteOffset := 40 }, { name := "Text", type := 9, offset := 6, embedded := false, tag := "", pkgPath := "", byteOffset := 56 }] : Array Field).mapM fun (f : Field) => (do pure (f.offset, ← sizeOf f.type) : Sem (Nat × Nat))).run Try.prog w = .ok #[(0, 1), (1, 1), (2, 1), (3, 1), (4, 1), (5, 1), (6, 1)] w := fun w => by kernel_rfl

theorem pl_63 : ∀ w, ((#[{ name := "b", type := 24, offset := 0, embedded := false, tag := "", pkgPath := "topiary/codec", byteOffset := 0 }, { name := "at", type := 3, offset := 1, embedded := false, tag := "", pkgPath := "topiary/codec", byteOffset := 24 }, { name := "bad", type := 4, offset := 2, embedded := false, tag := "", pkgPath := "topiary/codec", byteOffset := 32 }] : Array Field).mapM fun (f : Field) => (do pure (f.offset, ← sizeOf f.type) : Sem (Nat × Nat))).run Try.prog w = .ok #[(0, 1), (1, 1), (2, 1)] w := fun w => by kernel_rfl

theorem pl_70 : ∀ w, ((#[{ name := "B", type := 24, offset := 0, embedded := false, tag := "", pkgPath := "", byteOffset := 0 }, { name := "At", type := 3, offset := 1, embedded := false, tag := "", pkgPath := "", byteOffset := 24 }, { name := "Bad", type := 4, offset := 2, embedded := false, tag := "", pkgPath := "", byteOffset := 32 }] : Array Field).mapM fun (f : Field) => (do pure (f.offset, ← sizeOf f.type) : Sem (Nat × Nat))).run Try.prog w = .ok #[(0, 1), (1, 1), (2, 1)] w := fun w => by kernel_rfl

theorem pl_78 : ∀ w, ((#[{ name := "do", type := 75, offset := 0, embedded := false, tag := "", pkgPath := "topiary/apply", byteOffset := 0 }, { name := "need", type := 76, offset := 1, embedded := false, tag := "", pkgPath := "topiary/apply", byteOffset := 8 }] : Array Field).mapM fun (f : Field) => (do pure (f.offset, ← sizeOf f.type) : Sem (Nat × Nat))).run Try.prog w = .ok #[(0, 1), (1, 1)] w := fun w => by kernel_rfl

theorem eq_42 (p0 : Int) (p1 : Int) (p2 : Int) (p3 : Int) (p4 : Int) (p5 : Str) (p6 : Str) (q0 : Int) (q1 : Int) (q2 : Int) (q3 : Int) (q4 : Int) (q5 : Str) (q6 : Str) : EqA Try.prog 42 #[.int .i64 p0, .int .i64 p1, .int .i64 p2, .int .i64 p3, .int .i64 p4, .string (Bs p5), .string (Bs p6)] #[.int .i64 q0, .int .i64 q1, .int .i64 q2, .int .i64 q3, .int .i64 q4, .string (Bs q5), .string (Bs q6)] (decide (p0 = q0 ∧ p1 = q1 ∧ p2 = q2 ∧ p3 = q3 ∧ p4 = q4 ∧ p5 = q5 ∧ p6 = q6)) := EqA.of (fs := [{ name := "Kind", type := 3, offset := 0, embedded := false, tag := "", pkgPath := "", byteOffset := 0 }, { name := "ID", type := 3, offset := 1, embedded := false, tag := "", pkgPath := "", byteOffset := 8 }, { name := "Parent", type := 3, offset := 2, embedded := false, tag := "", pkgPath := "", byteOffset := 16 }, { name := "At", type := 3, offset := 3, embedded := false, tag := "", pkgPath := "", byteOffset := 24 }, { name := "What", type := 3, offset := 4, embedded := false, tag := "", pkgPath := "", byteOffset := 32 }, { name := "Name", type := 9, offset := 5, embedded := false, tag := "", pkgPath := "", byteOffset := 40 }, { name := "Text", type := 9, offset := 6, embedded := false, tag := "", pkgPath := "", byteOffset := 56 }]) (by kernel_rfl) (by kernel_rfl) (by kernel_rfl) (by kernel_rfl) (fe_int (by decide) Try.underlying3 rfl rfl (fe_int (by decide) Try.underlying3 rfl rfl (fe_int (by decide) Try.underlying3 rfl rfl (fe_int (by decide) Try.underlying3 rfl rfl (fe_int (by decide) Try.underlying3 rfl rfl (fe_str (by decide) Try.underlying9 rfl rfl (fe_str (by decide) Try.underlying9 rfl rfl (fe_nil _ _)))))))) (by simp [Bool.and_assoc])

end Go.Proofs.Yteacalmdpoblpaa
