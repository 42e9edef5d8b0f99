/-
  PRINTED BY PROGRAM: the types that the walks of this seat meet.
-/
import Derived.Test.YtghmgfkdnolcdaaGreatProg
import Derived.Test.YtghmgfkdnolcdaaGreatQApplyAll1
import Derived.KernelRfl
namespace Go.Proofs.YtghmgfkdnolcdaaGreat
open Go.RowKit
theorem ti_3 : TI Tryz.prog 3 (.int .i64 0) 1 8 := TI.of (by kernel_rfl)
theorem ti_9 : TI Tryz.prog 9 (.string (Bs ([] : Str))) 1 16 := TI.of (by kernel_rfl)
theorem ti_22 : TI Tryz.prog 22 (Sl.v Sl.nil) 1 24 := TI.of (by kernel_rfl)
theorem ti_23 : TI Tryz.prog 23 (Sl.v Sl.nil) 1 24 := TI.of (by kernel_rfl)
theorem ti_25 : TI Tryz.prog 25 (.agg #[.int .i64 0, .string (Bs ([] : Str)), .string (Bs ([] : Str)), Sl.v Sl.nil, Sl.v Sl.nil]) 5 88 := TI.of (by kernel_rfl)
theorem ti_38 : TI Tryz.prog 38 (.agg #[.int .i64 0, .int .i64 0, .int .i64 0, .int .i64 0, .int .i64 0, .string (Bs ([] : Str)), .string (Bs ([] : Str))]) 7 72 := TI.of (by kernel_rfl)
theorem ti_52 : TI Tryz.prog 52 (.nilFunc) 1 8 := TI.of (by kernel_rfl)
theorem ti_53 : TI Tryz.prog 53 (.nilFunc) 1 8 := TI.of (by kernel_rfl)
theorem ti_55 : TI Tryz.prog 55 (.agg #[.nilFunc, .nilFunc]) 2 16 := TI.of (by kernel_rfl)
theorem ti_56 : TI Tryz.prog 56 (.agg #[.nilFunc, .nilFunc, .nilFunc, .nilFunc, .nilFunc, .nilFunc, .nilFunc, .nilFunc, .nilFunc, .nilFunc, .nilFunc, .nilFunc, .nilFunc, .nilFunc]) 14 112 := TI.of (by kernel_rfl)
theorem ti_63 : TI Tryz.prog 63 (.agg #[.string (Bs ([] : Str)), .string (Bs ([] : Str))]) 2 32 := TI.of (by kernel_rfl)
theorem ti_72 : TI Tryz.prog 72 (Sl.v Sl.nil) 1 24 := TI.of (by kernel_rfl)
theorem ti_74 : TI Tryz.prog 74 (.agg #[Sl.v Sl.nil]) 1 24 := TI.of (by kernel_rfl)
theorem ti_78 : TI Tryz.prog 78 (Sl.v Sl.nil) 1 24 := TI.of (by kernel_rfl)
theorem ti_80 : TI Tryz.prog 80 (.agg #[.int .i64 0, .int .i64 0, .int .i64 0, .string (Bs ([] : Str)), .string (Bs ([] : Str)), Sl.v Sl.nil, Sl.v Sl.nil, Sl.v Sl.nil]) 8 128 := TI.of (by kernel_rfl)
theorem ti_81 : TI Tryz.prog 81 (.map none) 1 8 := TI.of (by kernel_rfl)
theorem ti_82 : TI Tryz.prog 82 (Sl.v Sl.nil) 1 24 := TI.of (by kernel_rfl)
theorem ti_84 : TI Tryz.prog 84 (.agg #[Sl.v Sl.nil, .map none]) 2 32 := TI.of (by kernel_rfl)
theorem ti_88 : TI Tryz.prog 88 (.agg #[.int .i64 0, .int .i64 0, .int .i64 0, .string (Bs ([] : Str)), .string (Bs ([] : Str)), Sl.v Sl.nil, Sl.v Sl.nil, Sl.v Sl.nil]) 8 128 := TI.of (by kernel_rfl)
theorem pl_25 : ∀ w, ((#[{ name := "Kind", type := 3, offset := 0, embedded := false, tag := "", pkgPath := "", byteOffset := 0 }, { name := "Name", type := 9, offset := 1, embedded := false, tag := "", pkgPath := "", byteOffset := 8 }, { name := "Text", type := 9, offset := 2, embedded := false, tag := "", pkgPath := "", byteOffset := 24 }, { name := "Attrs", type := 22, offset := 3, embedded := false, tag := "", pkgPath := "", byteOffset := 40 }, { name := "Kids", type := 23, offset := 4, embedded := false, tag := "", pkgPath := "", byteOffset := 64 }] : Array Field).mapM fun (f : Field) => (do pure (f.offset, ← sizeOf f.type) : Sem (Nat × Nat))).run Tryz.prog w = .ok #[(0, 1), (1, 1), (2, 1), (3, 1), (4, 1)] w := fun w => by kernel_rfl
theorem pl_38 : ∀ w, ((#[{ name := "Kind", type := 3, offset := 0, embedded := false, tag := "", pkgPath := "", byteOffset := 0 }, { name := "ID", type := 3, offset := 1, embedded := false, tag := "", pkgPath := "", byteOffset := 8 }, { name := "Parent", type := 3, offset := 2, embedded := false, tag := "", pkgPath := "", byteOffset := 16 }, { name := "At", type := 3, offset := 3, embedded := false, tag := "", pkgPath := "", byteOffset := 24 }, { name := "What", type := 3, offset := 4, embedded := false, tag := "", pkgPath := "", byteOffset := 32 }, { name := "Name", type := 9, offset := 5, embedded := false, tag := "", pkgPath := "", byteOffset := 40 }, { name := "Text", type := 9, offset := 6, embedded := false, tag := "", pkgPath := "", byteOffset := 56 }] : Array Field).mapM fun (f : Field) => (do pure (f.offset, ← sizeOf f.type) : Sem (Nat × Nat))).run Tryz.prog w = .ok #[(0, 1), (1, 1), (2, 1), (3, 1), (4, 1), (5, 1), (6, 1)] w := fun w => by kernel_rfl
theorem pl_55 : ∀ w, ((#[{ name := "do", type := 52, offset := 0, embedded := false, tag := "", pkgPath := "topiary/apply", byteOffset := 0 }, { name := "need", type := 53, offset := 1, embedded := false, tag := "", pkgPath := "topiary/apply", byteOffset := 8 }] : Array Field).mapM fun (f : Field) => (do pure (f.offset, ← sizeOf f.type) : Sem (Nat × Nat))).run Tryz.prog w = .ok #[(0, 1), (1, 1)] w := fun w => by kernel_rfl
theorem pl_63 : ∀ w, ((#[{ name := "Name", type := 9, offset := 0, embedded := false, tag := "", pkgPath := "", byteOffset := 0 }, { name := "Value", type := 9, offset := 1, embedded := false, tag := "", pkgPath := "", byteOffset := 16 }] : Array Field).mapM fun (f : Field) => (do pure (f.offset, ← sizeOf f.type) : Sem (Nat × Nat))).run Tryz.prog w = .ok #[(0, 1), (1, 1)] w := fun w => by kernel_rfl
theorem pl_74 : ∀ w, ((#[{ name := "L", type := 72, offset := 0, embedded := false, tag := "", pkgPath := "", byteOffset := 0 }] : Array Field).mapM fun (f : Field) => (do pure (f.offset, ← sizeOf f.type) : Sem (Nat × Nat))).run Tryz.prog w = .ok #[(0, 1)] w := fun w => by kernel_rfl
theorem pl_80 : ∀ w, ((#[{ name := "ID", type := 3, offset := 0, embedded := false, tag := "", pkgPath := "", byteOffset := 0 }, { name := "Parent", type := 3, offset := 1, embedded := false, tag := "", pkgPath := "", byteOffset := 8 }, { name := "T", type := 25, offset := 2, embedded := false, tag := "", pkgPath := "", byteOffset := 16 }, { name := "Kids", type := 78, offset := 7, embedded := false, tag := "", pkgPath := "", byteOffset := 104 }] : Array Field).mapM fun (f : Field) => (do pure (f.offset, ← sizeOf f.type) : Sem (Nat × Nat))).run Tryz.prog w = .ok #[(0, 1), (1, 1), (2, 5), (7, 1)] w := fun w => by kernel_rfl
theorem pl_84 : ∀ w, ((#[{ name := "l", type := 82, offset := 0, embedded := false, tag := "", pkgPath := "topiary/dom", byteOffset := 0 }, { name := "at", type := 81, offset := 1, embedded := false, tag := "", pkgPath := "topiary/dom", byteOffset := 24 }] : Array Field).mapM fun (f : Field) => (do pure (f.offset, ← sizeOf f.type) : Sem (Nat × Nat))).run Tryz.prog w = .ok #[(0, 1), (1, 1)] w := fun w => by kernel_rfl
theorem pl_88 : ∀ w, ((#[{ name := "id", type := 3, offset := 0, embedded := false, tag := "", pkgPath := "topiary/dom", byteOffset := 0 }, { name := "parent", type := 3, offset := 1, embedded := false, tag := "", pkgPath := "topiary/dom", byteOffset := 8 }, { name := "t", type := 25, offset := 2, embedded := false, tag := "", pkgPath := "topiary/dom", byteOffset := 16 }, { name := "kids", type := 78, offset := 7, embedded := false, tag := "", pkgPath := "topiary/dom", byteOffset := 104 }] : Array Field).mapM fun (f : Field) => (do pure (f.offset, ← sizeOf f.type) : Sem (Nat × Nat))).run Tryz.prog w = .ok #[(0, 1), (1, 1), (2, 5), (7, 1)] w := fun w => by kernel_rfl
theorem eq_38 (p0 : Int) (p1 : Int) (p2 : Int) (p3 : Int) (p4 : Int) (p5 : Str) (p6 : Str) (q0 : Int) (q1 : Int) (q2 : Int) (q3 : Int) (q4 : Int) (q5 : Str) (q6 : Str) : EqA Tryz.prog 38 #[.int .i64 p0, .int .i64 p1, .int .i64 p2, .int .i64 p3, .int .i64 p4, .string (Bs p5), .string (Bs p6)] #[.int .i64 q0, .int .i64 q1, .int .i64 q2, .int .i64 q3, .int .i64 q4, .string (Bs q5), .string (Bs q6)] (decide (p0 = q0 ∧ p1 = q1 ∧ p2 = q2 ∧ p3 = q3 ∧ p4 = q4 ∧ p5 = q5 ∧ p6 = q6)) := EqA.of (fs := [{ name := "Kind", type := 3, offset := 0, embedded := false, tag := "", pkgPath := "", byteOffset := 0 }, { name := "ID", type := 3, offset := 1, embedded := false, tag := "", pkgPath := "", byteOffset := 8 }, { name := "Parent", type := 3, offset := 2, embedded := false, tag := "", pkgPath := "", byteOffset := 16 }, { name := "At", type := 3, offset := 3, embedded := false, tag := "", pkgPath := "", byteOffset := 24 }, { name := "What", type := 3, offset := 4, embedded := false, tag := "", pkgPath := "", byteOffset := 32 }, { name := "Name", type := 9, offset := 5, embedded := false, tag := "", pkgPath := "", byteOffset := 40 }, { name := "Text", type := 9, offset := 6, embedded := false, tag := "", pkgPath := "", byteOffset := 56 }]) (by kernel_rfl) (by kernel_rfl) (by kernel_rfl) (by kernel_rfl) (fe_int (by decide) Tryz.underlying3 rfl rfl (fe_int (by decide) Tryz.underlying3 rfl rfl (fe_int (by decide) Tryz.underlying3 rfl rfl (fe_int (by decide) Tryz.underlying3 rfl rfl (fe_int (by decide) Tryz.underlying3 rfl rfl (fe_str (by decide) Tryz.underlying9 rfl rfl (fe_str (by decide) Tryz.underlying9 rfl rfl (fe_nil _ _)))))))) (by simp [Bool.and_assoc])
abbrev pB (b o : Nat) : Value := .pointer (some ⟨b, o, none⟩)
def lkL (L : List (Nat × Value)) : List (Nat × Value) → List (Option Value)
 |[] => []
 |(d, _) :: r => lookupL d L :: lkL L r
def smL : List (Nat × Value) → List (Option Value)
 |[] => []
 |(_, v) :: r => some v :: smL r
theorem subL_of {L : List (Nat × Value)} : ∀ L', lkL L L' = smL L' → SubL L L'
 |[], _ => trivial
 |(_, _) :: r, h => by
   injection h with h1 h2
   exact ⟨h1, subL_of r h2⟩
theorem Ag.kp {n : Nat} {a : Act} {L : List (Nat × Value)} (h : Ag n a L) (L' : List (Nat × Value)) (e : lkL L L' = smL L') : Ag n a L' := h.keep L' (subL_of L' e)
theorem tU119 : Tryz.prog.underlying 119 = some (.slice 9) := Tryz.underlying119
theorem tU121 : Tryz.prog.underlying 121 = some (.int .u64) := Tryz.underlying121
theorem tU22 : Tryz.prog.underlying 22 = some (.slice 63) := Tryz.underlying22
theorem tU23 : Tryz.prog.underlying 23 = some (.slice 25) := Tryz.underlying23
theorem tU26 : Tryz.prog.underlying 26 = some (.slice 38) := Tryz.underlying26
theorem tU3 : Tryz.prog.underlying 3 = some (.int .i64) := Tryz.underlying3
theorem tU4 : Tryz.prog.underlying 4 = some (.bool) := Tryz.underlying4
theorem tU58 : Tryz.prog.underlying 58 = some (.pointer 74) := Tryz.underlying58
theorem tU72 : Tryz.prog.underlying 72 = some (.slice 80) := Tryz.underlying72
theorem tU76 : Tryz.prog.underlying 76 = some (.pointer 80) := Tryz.underlying76
theorem tU78 : Tryz.prog.underlying 78 = some (.slice 3) := Tryz.underlying78
theorem tU81 : Tryz.prog.underlying 81 = some (.map 3 3) := Tryz.underlying81
theorem tU82 : Tryz.prog.underlying 82 = some (.slice 88) := Tryz.underlying82
theorem tU85 : Tryz.prog.underlying 85 = some (.pointer 88) := Tryz.underlying85
theorem tU9 : Tryz.prog.underlying 9 = some (.string) := Tryz.underlying9
end Go.Proofs.YtghmgfkdnolcdaaGreat
