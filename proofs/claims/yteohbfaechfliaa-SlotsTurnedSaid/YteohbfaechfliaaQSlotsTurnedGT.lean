/-
  PRINTED BY PROGRAM: the types that the walks of this seat meet.
-/
import Derived.Test.YteohbfaechfliaaProg
import Derived.Test.YteohbfaechfliaaQSlotsTurned1
import Derived.KernelRfl
namespace Go.Proofs.Yteohbfaechfliaa
open Go.RowKit
theorem ti_3 : TI Try.prog 3 (.int .i64 0) 1 8 := TI.of (by kernel_rfl)
theorem ti_4 : TI Try.prog 4 (.bool false) 1 1 := TI.of (by kernel_rfl)
theorem ti_9 : TI Try.prog 9 (.string (Bs ([] : Str))) 1 16 := TI.of (by kernel_rfl)
theorem ti_22 : TI Try.prog 22 (Sl.v Sl.nil) 1 24 := TI.of (by kernel_rfl)
theorem ti_23 : TI Try.prog 23 (Sl.v Sl.nil) 1 24 := TI.of (by kernel_rfl)
theorem ti_24 : TI Try.prog 24 (Sl.v Sl.nil) 1 24 := TI.of (by kernel_rfl)
theorem ti_26 : TI Try.prog 26 (.agg #[.int .i64 0, .string (Bs ([] : Str)), .string (Bs ([] : Str)), Sl.v Sl.nil, Sl.v Sl.nil]) 5 88 := TI.of (by kernel_rfl)
theorem ti_31 : TI Try.prog 31 (Sl.v Sl.nil) 1 24 := TI.of (by kernel_rfl)
theorem ti_38 : TI Try.prog 38 (.agg #[.int .i64 0, .int .i64 0, .int .i64 0, .int .i64 0, .int .i64 0, .int .i64 0, .string (Bs ([] : Str)), .string (Bs ([] : Str)), Sl.v Sl.nil, Sl.v Sl.nil, .int .i64 0, .string (Bs ([] : Str)), .string (Bs ([] : Str)), Sl.v Sl.nil, Sl.v Sl.nil]) 15 216 := TI.of (by kernel_rfl)
theorem ti_40 : TI Try.prog 40 (.agg #[.int .i64 0, .int .i64 0]) 2 16 := TI.of (by kernel_rfl)
theorem ti_41 : TI Try.prog 41 (Sl.v Sl.nil) 1 24 := TI.of (by kernel_rfl)
theorem ti_43 : TI Try.prog 43 (.agg #[.bool false, .bool false, Sl.v Sl.nil, Sl.v Sl.nil, .int .i64 0, Sl.v Sl.nil]) 6 88 := TI.of (by kernel_rfl)
theorem ti_47 : TI Try.prog 47 (.agg #[.string (Bs ([] : Str)), .string (Bs ([] : Str))]) 2 32 := TI.of (by kernel_rfl)
theorem ti_67 : TI Try.prog 67 (.pointer none) 1 8 := TI.of (by kernel_rfl)
theorem ti_70 : TI Try.prog 70 (.agg #[Sl.v Sl.nil, Sl.v Sl.nil, .pointer none]) 3 56 := TI.of (by kernel_rfl)
theorem ti_74 : TI Try.prog 74 (.agg #[Sl.v Sl.nil, Sl.v Sl.nil]) 2 48 := TI.of (by kernel_rfl)
theorem ti_79 : TI Try.prog 79 (Sl.v Sl.nil) 1 24 := TI.of (by kernel_rfl)
theorem ti_81 : TI Try.prog 81 (.map none) 1 8 := TI.of (by kernel_rfl)
theorem ti_86 : TI Try.prog 86 (.agg #[.int .i64 0, .int .i64 0, .int .i64 0, .int .i64 0, .int .i64 0, .int .i64 0, .string (Bs ([] : Str)), .string (Bs ([] : Str)), Sl.v Sl.nil, Sl.v Sl.nil]) 10 128 := TI.of (by kernel_rfl)
theorem ti_89 : TI Try.prog 89 (Sl.v Sl.nil) 1 24 := TI.of (by kernel_rfl)
theorem ti_91 : TI Try.prog 91 (.agg #[Sl.v Sl.nil, Sl.v Sl.nil, .pointer none, Sl.v Sl.nil]) 4 80 := TI.of (by kernel_rfl)
theorem ti_93 : TI Try.prog 93 (.agg #[.bool false, .bool false, Sl.v Sl.nil, Sl.v Sl.nil, .int .i64 0, Sl.v Sl.nil]) 6 88 := TI.of (by kernel_rfl)
theorem ti_98 : TI Try.prog 98 (.agg #[.string (Bs ([] : Str)), .string (Bs ([] : Str)), .string (Bs ([] : Str)), .string (Bs ([] : Str))]) 4 64 := TI.of (by kernel_rfl)
theorem ti_109 : TI Try.prog 109 (.agg #[.int .i64 0, .string (Bs ([] : Str))]) 2 24 := TI.of (by kernel_rfl)
theorem ti_112 : TI Try.prog 112 (.pointer none) 1 8 := TI.of (by kernel_rfl)
theorem ti_114 : TI Try.prog 114 (.agg #[.pointer none, .int .i64 0, .int .i64 0, .int .i64 0]) 4 32 := TI.of (by kernel_rfl)
theorem ti_125 : TI Try.prog 125 (Sl.v Sl.nil) 1 24 := TI.of (by kernel_rfl)
theorem ti_127 : TI Try.prog 127 (.agg #[Sl.v Sl.nil, Sl.v Sl.nil, Sl.v Sl.nil, Sl.v Sl.nil, Sl.v Sl.nil, Sl.v Sl.nil, Sl.v Sl.nil, Sl.v Sl.nil]) 8 192 := TI.of (by kernel_rfl)
theorem ti_129 : TI Try.prog 129 (.agg #[.int .i64 0, .int .i64 0]) 2 16 := TI.of (by kernel_rfl)
theorem ti_140 : TI Try.prog 140 (.agg #[.int .i64 0, .int .i64 0, .int .i64 0, .int .i64 0]) 4 32 := TI.of (by kernel_rfl)
theorem pl_26 : ∀ w, ((#[{ name := "Kind", type := 3, offset := 0, embedded := false, tag := "", pkgPath := "", byteOffset := 0 }, { name := "Name", type := 9, offset := 1, embedded := false, tag := "", pkgPath := "", byteOffset := 8 }, { name := "Text", type := 9, offset := 2, embedded := false, tag := "", pkgPath := "", byteOffset := 24 }, { name := "Attrs", type := 23, offset := 3, embedded := false, tag := "", pkgPath := "", byteOffset := 40 }, { name := "Kids", type := 24, offset := 4, embedded := false, tag := "", pkgPath := "", byteOffset := 64 }] : Array Field).mapM fun (f : Field) => (do pure (f.offset, ← sizeOf f.type) : Sem (Nat × Nat))).run Try.prog w = .ok #[(0, 1), (1, 1), (2, 1), (3, 1), (4, 1)] w := fun w => by kernel_rfl
theorem pl_38 : ∀ w, ((#[{ name := "Parent", type := 3, offset := 0, embedded := false, tag := "", pkgPath := "", byteOffset := 0 }, { name := "Size", type := 3, offset := 1, embedded := false, tag := "", pkgPath := "", byteOffset := 8 }, { name := "Depth", type := 3, offset := 2, embedded := false, tag := "", pkgPath := "", byteOffset := 16 }, { name := "Height", type := 3, offset := 3, embedded := false, tag := "", pkgPath := "", byteOffset := 24 }, { name := "Place", type := 3, offset := 4, embedded := false, tag := "", pkgPath := "", byteOffset := 32 }, { name := "Own", type := 26, offset := 5, embedded := false, tag := "", pkgPath := "", byteOffset := 40 }, { name := "T", type := 26, offset := 10, embedded := false, tag := "", pkgPath := "", byteOffset := 128 }] : Array Field).mapM fun (f : Field) => (do pure (f.offset, ← sizeOf f.type) : Sem (Nat × Nat))).run Try.prog w = .ok #[(0, 1), (1, 1), (2, 1), (3, 1), (4, 1), (5, 5), (10, 5)] w := fun w => by kernel_rfl
theorem pl_40 : ∀ w, ((#[{ name := "A", type := 3, offset := 0, embedded := false, tag := "", pkgPath := "", byteOffset := 0 }, { name := "B", type := 3, offset := 1, embedded := false, tag := "", pkgPath := "", byteOffset := 8 }] : Array Field).mapM fun (f : Field) => (do pure (f.offset, ← sizeOf f.type) : Sem (Nat × Nat))).run Try.prog w = .ok #[(0, 1), (1, 1)] w := fun w => by kernel_rfl
theorem pl_43 : ∀ w, ((#[{ name := "Gone", type := 4, offset := 0, embedded := false, tag := "", pkgPath := "", byteOffset := 0 }, { name := "Text", type := 4, offset := 1, embedded := false, tag := "", pkgPath := "", byteOffset := 1 }, { name := "Set", type := 23, offset := 2, embedded := false, tag := "", pkgPath := "", byteOffset := 8 }, { name := "Unset", type := 41, offset := 3, embedded := false, tag := "", pkgPath := "", byteOffset := 32 }, { name := "Up", type := 3, offset := 4, embedded := false, tag := "", pkgPath := "", byteOffset := 56 }, { name := "Kids", type := 22, offset := 5, embedded := false, tag := "", pkgPath := "", byteOffset := 64 }] : Array Field).mapM fun (f : Field) => (do pure (f.offset, ← sizeOf f.type) : Sem (Nat × Nat))).run Try.prog w = .ok #[(0, 1), (1, 1), (2, 1), (3, 1), (4, 1), (5, 1)] w := fun w => by kernel_rfl
theorem pl_47 : ∀ w, ((#[{ name := "Name", type := 9, offset := 0, embedded := false, tag := "", pkgPath := "", byteOffset := 0 }, { name := "Value", type := 9, offset := 1, embedded := false, tag := "", pkgPath := "", byteOffset := 16 }] : Array Field).mapM fun (f : Field) => (do pure (f.offset, ← sizeOf f.type) : Sem (Nat × Nat))).run Try.prog w = .ok #[(0, 1), (1, 1)] w := fun w => by kernel_rfl
theorem pl_70 : ∀ w, ((#[{ name := "X", type := 31, offset := 0, embedded := false, tag := "", pkgPath := "", byteOffset := 0 }, { name := "Y", type := 31, offset := 1, embedded := false, tag := "", pkgPath := "", byteOffset := 24 }, { name := "M", type := 67, offset := 2, embedded := false, tag := "", pkgPath := "", byteOffset := 48 }] : Array Field).mapM fun (f : Field) => (do pure (f.offset, ← sizeOf f.type) : Sem (Nat × Nat))).run Try.prog w = .ok #[(0, 1), (1, 1), (2, 1)] w := fun w => by kernel_rfl
theorem pl_74 : ∀ w, ((#[{ name := "A", type := 22, offset := 0, embedded := false, tag := "", pkgPath := "", byteOffset := 0 }, { name := "B", type := 22, offset := 1, embedded := false, tag := "", pkgPath := "", byteOffset := 24 }] : Array Field).mapM fun (f : Field) => (do pure (f.offset, ← sizeOf f.type) : Sem (Nat × Nat))).run Try.prog w = .ok #[(0, 1), (1, 1)] w := fun w => by kernel_rfl
theorem pl_86 : ∀ w, ((#[{ name := "Parent", type := 3, offset := 0, embedded := false, tag := "", pkgPath := "", byteOffset := 0 }, { name := "Size", type := 3, offset := 1, embedded := false, tag := "", pkgPath := "", byteOffset := 8 }, { name := "Depth", type := 3, offset := 2, embedded := false, tag := "", pkgPath := "", byteOffset := 16 }, { name := "Height", type := 3, offset := 3, embedded := false, tag := "", pkgPath := "", byteOffset := 24 }, { name := "Place", type := 3, offset := 4, embedded := false, tag := "", pkgPath := "", byteOffset := 32 }, { name := "Node", type := 26, offset := 5, embedded := false, tag := "", pkgPath := "", byteOffset := 40 }] : Array Field).mapM fun (f : Field) => (do pure (f.offset, ← sizeOf f.type) : Sem (Nat × Nat))).run Try.prog w = .ok #[(0, 1), (1, 1), (2, 1), (3, 1), (4, 1), (5, 5)] w := fun w => by kernel_rfl
theorem pl_91 : ∀ w, ((#[{ name := "O", type := 31, offset := 0, embedded := false, tag := "", pkgPath := "", byteOffset := 0 }, { name := "X", type := 31, offset := 1, embedded := false, tag := "", pkgPath := "", byteOffset := 24 }, { name := "M", type := 67, offset := 2, embedded := false, tag := "", pkgPath := "", byteOffset := 48 }, { name := "L", type := 89, offset := 3, embedded := false, tag := "", pkgPath := "", byteOffset := 56 }] : Array Field).mapM fun (f : Field) => (do pure (f.offset, ← sizeOf f.type) : Sem (Nat × Nat))).run Try.prog w = .ok #[(0, 1), (1, 1), (2, 1), (3, 1)] w := fun w => by kernel_rfl
theorem pl_93 : ∀ w, ((#[{ name := "Gone", type := 4, offset := 0, embedded := false, tag := "", pkgPath := "", byteOffset := 0 }, { name := "Text", type := 4, offset := 1, embedded := false, tag := "", pkgPath := "", byteOffset := 1 }, { name := "Set", type := 23, offset := 2, embedded := false, tag := "", pkgPath := "", byteOffset := 8 }, { name := "Unset", type := 41, offset := 3, embedded := false, tag := "", pkgPath := "", byteOffset := 32 }, { name := "Up", type := 3, offset := 4, embedded := false, tag := "", pkgPath := "", byteOffset := 56 }, { name := "Kids", type := 22, offset := 5, embedded := false, tag := "", pkgPath := "", byteOffset := 64 }] : Array Field).mapM fun (f : Field) => (do pure (f.offset, ← sizeOf f.type) : Sem (Nat × Nat))).run Try.prog w = .ok #[(0, 1), (1, 1), (2, 1), (3, 1), (4, 1), (5, 1)] w := fun w => by kernel_rfl
theorem pl_109 : ∀ w, ((#[{ name := "kind", type := 3, offset := 0, embedded := false, tag := "", pkgPath := "topiary/match", byteOffset := 0 }, { name := "name", type := 9, offset := 1, embedded := false, tag := "", pkgPath := "topiary/match", byteOffset := 8 }] : Array Field).mapM fun (f : Field) => (do pure (f.offset, ← sizeOf f.type) : Sem (Nat × Nat))).run Try.prog w = .ok #[(0, 1), (1, 1)] w := fun w => by kernel_rfl
theorem pl_114 : ∀ w, ((#[{ name := "t", type := 112, offset := 0, embedded := false, tag := "", pkgPath := "topiary/walk", byteOffset := 0 }, { name := "parent", type := 3, offset := 1, embedded := false, tag := "", pkgPath := "topiary/walk", byteOffset := 8 }, { name := "depth", type := 3, offset := 2, embedded := false, tag := "", pkgPath := "topiary/walk", byteOffset := 16 }, { name := "place", type := 3, offset := 3, embedded := false, tag := "", pkgPath := "topiary/walk", byteOffset := 24 }] : Array Field).mapM fun (f : Field) => (do pure (f.offset, ← sizeOf f.type) : Sem (Nat × Nat))).run Try.prog w = .ok #[(0, 1), (1, 1), (2, 1), (3, 1)] w := fun w => by kernel_rfl
theorem pl_127 : ∀ w, ((#[{ name := "A", type := 31, offset := 0, embedded := false, tag := "", pkgPath := "", byteOffset := 0 }, { name := "B", type := 31, offset := 1, embedded := false, tag := "", pkgPath := "", byteOffset := 24 }, { name := "PA", type := 22, offset := 2, embedded := false, tag := "", pkgPath := "", byteOffset := 48 }, { name := "PB", type := 22, offset := 3, embedded := false, tag := "", pkgPath := "", byteOffset := 72 }, { name := "LA", type := 22, offset := 4, embedded := false, tag := "", pkgPath := "", byteOffset := 96 }, { name := "LB", type := 22, offset := 5, embedded := false, tag := "", pkgPath := "", byteOffset := 120 }, { name := "Keys", type := 125, offset := 6, embedded := false, tag := "", pkgPath := "", byteOffset := 144 }, { name := "Dist", type := 22, offset := 7, embedded := false, tag := "", pkgPath := "", byteOffset := 168 }] : Array Field).mapM fun (f : Field) => (do pure (f.offset, ← sizeOf f.type) : Sem (Nat × Nat))).run Try.prog w = .ok #[(0, 1), (1, 1), (2, 1), (3, 1), (4, 1), (5, 1), (6, 1), (7, 1)] w := fun w => by kernel_rfl
theorem pl_129 : ∀ w, ((#[{ name := "From", type := 3, offset := 0, embedded := false, tag := "", pkgPath := "", byteOffset := 0 }, { name := "To", type := 3, offset := 1, embedded := false, tag := "", pkgPath := "", byteOffset := 8 }] : Array Field).mapM fun (f : Field) => (do pure (f.offset, ← sizeOf f.type) : Sem (Nat × Nat))).run Try.prog w = .ok #[(0, 1), (1, 1)] w := fun w => by kernel_rfl
theorem eq_40 (p0 : Int) (p1 : Int) (q0 : Int) (q1 : Int) : EqA Try.prog 40 #[.int .i64 p0, .int .i64 p1] #[.int .i64 q0, .int .i64 q1] (decide (p0 = q0 ∧ p1 = q1)) := EqA.of (fs := [{ name := "A", type := 3, offset := 0, embedded := false, tag := "", pkgPath := "", byteOffset := 0 }, { name := "B", type := 3, offset := 1, embedded := false, tag := "", pkgPath := "", byteOffset := 8 }]) (by kernel_rfl) (by kernel_rfl) (by kernel_rfl) (by kernel_rfl) (fe_int (by decide) Try.underlying3 rfl rfl (fe_int (by decide) Try.underlying3 rfl rfl (fe_nil _ _))) (by simp [Bool.and_assoc])
theorem eq_47 (p0 : Str) (p1 : Str) (q0 : Str) (q1 : Str) : EqA Try.prog 47 #[.string (Bs p0), .string (Bs p1)] #[.string (Bs q0), .string (Bs q1)] (decide (p0 = q0 ∧ p1 = q1)) := EqA.of (fs := [{ name := "Name", type := 9, offset := 0, embedded := false, tag := "", pkgPath := "", byteOffset := 0 }, { name := "Value", type := 9, offset := 1, embedded := false, tag := "", pkgPath := "", byteOffset := 16 }]) (by kernel_rfl) (by kernel_rfl) (by kernel_rfl) (by kernel_rfl) (fe_str (by decide) Try.underlying9 rfl rfl (fe_str (by decide) Try.underlying9 rfl rfl (fe_nil _ _))) (by simp [Bool.and_assoc])
theorem eq_109 (p0 : Int) (p1 : Str) (q0 : Int) (q1 : Str) : EqA Try.prog 109 #[.int .i64 p0, .string (Bs p1)] #[.int .i64 q0, .string (Bs q1)] (decide (p0 = q0 ∧ p1 = q1)) := EqA.of (fs := [{ name := "kind", type := 3, offset := 0, embedded := false, tag := "", pkgPath := "topiary/match", byteOffset := 0 }, { name := "name", type := 9, offset := 1, embedded := false, tag := "", pkgPath := "topiary/match", byteOffset := 8 }]) (by kernel_rfl) (by kernel_rfl) (by kernel_rfl) (by kernel_rfl) (fe_int (by decide) Try.underlying3 rfl rfl (fe_str (by decide) Try.underlying9 rfl rfl (fe_nil _ _))) (by simp [Bool.and_assoc])
theorem eq_140 (p0 : Int) (p1 : Int) (p2 : Int) (p3 : Int) (q0 : Int) (q1 : Int) (q2 : Int) (q3 : Int) : EqA Try.prog 140 #[.int .i64 p0, .int .i64 p1, .int .i64 p2, .int .i64 p3] #[.int .i64 q0, .int .i64 q1, .int .i64 q2, .int .i64 q3] (decide (p0 = q0 ∧ p1 = q1 ∧ p2 = q2 ∧ p3 = q3)) := eqa_int4 (by kernel_rfl) Try.underlying140 (TI.of (by kernel_rfl) : TI Try.prog 3 (.int .i64 0) 1 8) (by kernel_rfl) Try.underlying3
abbrev pB (b o : Nat) : Value := .pointer (some ⟨b, o, none⟩)
def lkL (L : List (Nat × Value)) : List (Nat × Value) → List (Option Value)
 |[] => []
 |(d, _) :: r => lookupL d L :: lkL L r
def smL : List (Nat × Value) → List (Option Value)
 |[] => []
 |(_, v) :: r => some v :: smL r
theorem subL_of {L : List (Nat × Value)} : ∀ L', lkL L L' = smL L' → SubL L L'
 |[], _ => trivial
 |(_, _) :: r, h => by
   injection h with h1 h2
   exact ⟨h1, subL_of r h2⟩
theorem Ag.kp {n : Nat} {a : Act} {L : List (Nat × Value)} (h : Ag n a L) (L' : List (Nat × Value)) (e : lkL L L' = smL L') : Ag n a L' := h.keep L' (subL_of L' e)
theorem tU112 : Try.prog.underlying 112 = some (.pointer 26) := Try.underlying112
theorem tU125 : Try.prog.underlying 125 = some (.slice 140) := Try.underlying125
theorem tU133 : Try.prog.underlying 133 = some (.slice 114) := Try.underlying133
theorem tU22 : Try.prog.underlying 22 = some (.slice 3) := Try.underlying22
theorem tU23 : Try.prog.underlying 23 = some (.slice 47) := Try.underlying23
theorem tU24 : Try.prog.underlying 24 = some (.slice 26) := Try.underlying24
theorem tU29 : Try.prog.underlying 29 = some (.slice 40) := Try.underlying29
theorem tU3 : Try.prog.underlying 3 = some (.int .i64) := Try.underlying3
theorem tU31 : Try.prog.underlying 31 = some (.slice 38) := Try.underlying31
theorem tU33 : Try.prog.underlying 33 = some (.slice 43) := Try.underlying33
theorem tU4 : Try.prog.underlying 4 = some (.bool) := Try.underlying4
theorem tU41 : Try.prog.underlying 41 = some (.slice 9) := Try.underlying41
theorem tU67 : Try.prog.underlying 67 = some (.pointer 74) := Try.underlying67
theorem tU79 : Try.prog.underlying 79 = some (.slice 86) := Try.underlying79
theorem tU81 : Try.prog.underlying 81 = some (.map 3 3) := Try.underlying81
theorem tU89 : Try.prog.underlying 89 = some (.slice 93) := Try.underlying89
theorem tU9 : Try.prog.underlying 9 = some (.string) := Try.underlying9
end Go.Proofs.Yteohbfaechfliaa
