/-
  PRINTED BY PROGRAM: the types that the walks of this seat meet.
-/
import Derived.Test.YteacalmdpoblpaaGreatProg
import Derived.Test.YteacalmdpoblpaaGreatQCodecBase0
import Derived.KernelRfl
namespace Go.Proofs.YteacalmdpoblpaaGreat
open Go.RowKit
theorem ti_3 : TI Tryz.prog 3 (.int .i64 0) 1 8 := TI.of (by kernel_rfl)
theorem ti_4 : TI Tryz.prog 4 (.bool false) 1 1 := TI.of (by kernel_rfl)
theorem ti_5 : TI Tryz.prog 5 (.int .u8 0) 1 1 := TI.of (by kernel_rfl)
theorem ti_9 : TI Tryz.prog 9 (.string (Bs ([] : Str))) 1 16 := TI.of (by kernel_rfl)
theorem ti_22 : TI Tryz.prog 22 (.int .u64 0) 1 8 := TI.of (by kernel_rfl)
theorem ti_27 : TI Tryz.prog 27 (Sl.v Sl.nil) 1 24 := TI.of (by kernel_rfl)
theorem ti_36 : TI Tryz.prog 36 (Sl.v Sl.nil) 1 24 := TI.of (by kernel_rfl)
theorem ti_37 : TI Tryz.prog 37 (Sl.v Sl.nil) 1 24 := TI.of (by kernel_rfl)
theorem ti_39 : TI Tryz.prog 39 (.agg #[.int .i64 0, .string (Bs ([] : Str)), .string (Bs ([] : Str)), Sl.v Sl.nil, Sl.v Sl.nil]) 5 88 := TI.of (by kernel_rfl)
theorem ti_44 : TI Tryz.prog 44 (Sl.v Sl.nil) 1 24 := TI.of (by kernel_rfl)
theorem ti_59 : TI Tryz.prog 59 (.agg #[.int .i64 0, .int .i64 0, .int .i64 0, .int .i64 0, .int .i64 0, .string (Bs ([] : Str)), .string (Bs ([] : Str))]) 7 72 := TI.of (by kernel_rfl)
theorem ti_65 : TI Tryz.prog 65 (.agg #[.int .u64 0, .int .u64 0]) 2 16 := TI.of (by kernel_rfl)
theorem ti_66 : TI Tryz.prog 66 (.agg #[.int .u8 0, .int .u8 0, .int .u8 0, .int .u8 0, .int .u8 0, .int .u8 0, .int .u8 0, .int .u8 0]) 8 8 := TI.of (by kernel_rfl)
theorem ti_73 : TI Tryz.prog 73 (.agg #[Sl.v Sl.nil, .int .i64 0, .bool false]) 3 40 := TI.of (by kernel_rfl)
theorem ti_91 : TI Tryz.prog 91 (.agg #[.string (Bs ([] : Str)), .string (Bs ([] : Str))]) 2 32 := TI.of (by kernel_rfl)
theorem ti_93 : TI Tryz.prog 93 (.nilFunc) 1 8 := TI.of (by kernel_rfl)
theorem ti_94 : TI Tryz.prog 94 (.nilFunc) 1 8 := TI.of (by kernel_rfl)
theorem ti_96 : TI Tryz.prog 96 (.agg #[.nilFunc, .nilFunc]) 2 16 := TI.of (by kernel_rfl)
theorem ti_97 : TI Tryz.prog 97 (.agg #[.nilFunc, .nilFunc, .nilFunc, .nilFunc, .nilFunc, .nilFunc, .nilFunc, .nilFunc, .nilFunc, .nilFunc, .nilFunc, .nilFunc, .nilFunc, .nilFunc]) 14 112 := TI.of (by kernel_rfl)
theorem ti_117 : TI Tryz.prog 117 (.agg #[.string (Bs ([] : Str)), .string (Bs ([] : Str)), .string (Bs ([] : Str)), .string (Bs ([] : Str))]) 4 64 := TI.of (by kernel_rfl)
theorem ti_158 : TI Tryz.prog 158 (Sl.v Sl.nil) 1 24 := TI.of (by kernel_rfl)
theorem ti_161 : TI Tryz.prog 161 (.agg #[.int .i64 0, .int .i64 0, .int .i64 0, .int .i64 0, .int .i64 0, .int .i64 0, .string (Bs ([] : Str)), .string (Bs ([] : Str)), Sl.v Sl.nil, Sl.v Sl.nil]) 10 128 := TI.of (by kernel_rfl)
theorem ti_192 : TI Tryz.prog 192 (Sl.v Sl.nil) 1 24 := TI.of (by kernel_rfl)
theorem ti_193 : TI Tryz.prog 193 (.map none) 1 8 := TI.of (by kernel_rfl)
theorem ti_195 : TI Tryz.prog 195 (.agg #[Sl.v Sl.nil, .map none]) 2 32 := TI.of (by kernel_rfl)
theorem ti_197 : TI Tryz.prog 197 (.agg #[.int .i64 0, .int .i64 0, .int .i64 0, .string (Bs ([] : Str)), .string (Bs ([] : Str)), Sl.v Sl.nil, Sl.v Sl.nil, Sl.v Sl.nil]) 8 128 := TI.of (by kernel_rfl)
theorem ti_205 : TI Tryz.prog 205 (.pointer none) 1 8 := TI.of (by kernel_rfl)
theorem ti_207 : TI Tryz.prog 207 (.agg #[.pointer none, .int .i64 0, .int .i64 0, .int .i64 0]) 4 32 := TI.of (by kernel_rfl)
theorem pl_39 : ∀ w, ((#[{ name := "Kind", type := 3, offset := 0, embedded := false, tag := "", pkgPath := "", byteOffset := 0 }, { name := "Name", type := 9, offset := 1, embedded := false, tag := "", pkgPath := "", byteOffset := 8 }, { name := "Text", type := 9, offset := 2, embedded := false, tag := "", pkgPath := "", byteOffset := 24 }, { name := "Attrs", type := 36, offset := 3, embedded := false, tag := "", pkgPath := "", byteOffset := 40 }, { name := "Kids", type := 37, offset := 4, embedded := false, tag := "", pkgPath := "", byteOffset := 64 }] : Array Field).mapM fun (f : Field) => (do pure (f.offset, ← sizeOf f.type) : Sem (Nat × Nat))).run Tryz.prog w = .ok #[(0, 1), (1, 1), (2, 1), (3, 1), (4, 1)] w := fun w => by kernel_rfl
theorem pl_59 : ∀ w, ((#[{ name := "Kind", type := 3, offset := 0, embedded := false, tag := "", pkgPath := "", byteOffset := 0 }, { name := "ID", type := 3, offset := 1, embedded := false, tag := "", pkgPath := "", byteOffset := 8 }, { name := "Parent", type := 3, offset := 2, embedded := false, tag := "", pkgPath := "", byteOffset := 16 }, { name := "At", type := 3, offset := 3, embedded := false, tag := "", pkgPath := "", byteOffset := 24 }, { name := "What", type := 3, offset := 4, embedded := false, tag := "", pkgPath := "", byteOffset := 32 }, { name := "Name", type := 9, offset := 5, embedded := false, tag := "", pkgPath := "", byteOffset := 40 }, { name := "Text", type := 9, offset := 6, embedded := false, tag := "", pkgPath := "", byteOffset := 56 }] : Array Field).mapM fun (f : Field) => (do pure (f.offset, ← sizeOf f.type) : Sem (Nat × Nat))).run Tryz.prog w = .ok #[(0, 1), (1, 1), (2, 1), (3, 1), (4, 1), (5, 1), (6, 1)] w := fun w => by kernel_rfl
theorem pl_73 : ∀ w, ((#[{ name := "b", type := 27, offset := 0, embedded := false, tag := "", pkgPath := "topiary/codec", byteOffset := 0 }, { name := "at", type := 3, offset := 1, embedded := false, tag := "", pkgPath := "topiary/codec", byteOffset := 24 }, { name := "bad", type := 4, offset := 2, embedded := false, tag := "", pkgPath := "topiary/codec", byteOffset := 32 }] : Array Field).mapM fun (f : Field) => (do pure (f.offset, ← sizeOf f.type) : Sem (Nat × Nat))).run Tryz.prog w = .ok #[(0, 1), (1, 1), (2, 1)] w := fun w => by kernel_rfl
theorem pl_91 : ∀ w, ((#[{ name := "Name", type := 9, offset := 0, embedded := false, tag := "", pkgPath := "", byteOffset := 0 }, { name := "Value", type := 9, offset := 1, embedded := false, tag := "", pkgPath := "", byteOffset := 16 }] : Array Field).mapM fun (f : Field) => (do pure (f.offset, ← sizeOf f.type) : Sem (Nat × Nat))).run Tryz.prog w = .ok #[(0, 1), (1, 1)] w := fun w => by kernel_rfl
theorem pl_96 : ∀ w, ((#[{ name := "do", type := 93, offset := 0, embedded := false, tag := "", pkgPath := "topiary/apply", byteOffset := 0 }, { name := "need", type := 94, offset := 1, embedded := false, tag := "", pkgPath := "topiary/apply", byteOffset := 8 }] : Array Field).mapM fun (f : Field) => (do pure (f.offset, ← sizeOf f.type) : Sem (Nat × Nat))).run Tryz.prog w = .ok #[(0, 1), (1, 1)] w := fun w => by kernel_rfl
theorem pl_161 : ∀ w, ((#[{ name := "Parent", type := 3, offset := 0, embedded := false, tag := "", pkgPath := "", byteOffset := 0 }, { name := "Size", type := 3, offset := 1, embedded := false, tag := "", pkgPath := "", byteOffset := 8 }, { name := "Depth", type := 3, offset := 2, embedded := false, tag := "", pkgPath := "", byteOffset := 16 }, { name := "Height", type := 3, offset := 3, embedded := false, tag := "", pkgPath := "", byteOffset := 24 }, { name := "Place", type := 3, offset := 4, embedded := false, tag := "", pkgPath := "", byteOffset := 32 }, { name := "Node", type := 39, offset := 5, embedded := false, tag := "", pkgPath := "", byteOffset := 40 }] : Array Field).mapM fun (f : Field) => (do pure (f.offset, ← sizeOf f.type) : Sem (Nat × Nat))).run Tryz.prog w = .ok #[(0, 1), (1, 1), (2, 1), (3, 1), (4, 1), (5, 5)] w := fun w => by kernel_rfl
theorem pl_195 : ∀ w, ((#[{ name := "l", type := 192, offset := 0, embedded := false, tag := "", pkgPath := "topiary/dom", byteOffset := 0 }, { name := "at", type := 193, offset := 1, embedded := false, tag := "", pkgPath := "topiary/dom", byteOffset := 24 }] : Array Field).mapM fun (f : Field) => (do pure (f.offset, ← sizeOf f.type) : Sem (Nat × Nat))).run Tryz.prog w = .ok #[(0, 1), (1, 1)] w := fun w => by kernel_rfl
theorem pl_197 : ∀ w, ((#[{ name := "id", type := 3, offset := 0, embedded := false, tag := "", pkgPath := "topiary/dom", byteOffset := 0 }, { name := "parent", type := 3, offset := 1, embedded := false, tag := "", pkgPath := "topiary/dom", byteOffset := 8 }, { name := "t", type := 39, offset := 2, embedded := false, tag := "", pkgPath := "topiary/dom", byteOffset := 16 }, { name := "kids", type := 44, offset := 7, embedded := false, tag := "", pkgPath := "topiary/dom", byteOffset := 104 }] : Array Field).mapM fun (f : Field) => (do pure (f.offset, ← sizeOf f.type) : Sem (Nat × Nat))).run Tryz.prog w = .ok #[(0, 1), (1, 1), (2, 5), (7, 1)] w := fun w => by kernel_rfl
theorem pl_207 : ∀ w, ((#[{ name := "t", type := 205, offset := 0, embedded := false, tag := "", pkgPath := "topiary/walk", byteOffset := 0 }, { name := "parent", type := 3, offset := 1, embedded := false, tag := "", pkgPath := "topiary/walk", byteOffset := 8 }, { name := "depth", type := 3, offset := 2, embedded := false, tag := "", pkgPath := "topiary/walk", byteOffset := 16 }, { name := "place", type := 3, offset := 3, embedded := false, tag := "", pkgPath := "topiary/walk", byteOffset := 24 }] : Array Field).mapM fun (f : Field) => (do pure (f.offset, ← sizeOf f.type) : Sem (Nat × Nat))).run Tryz.prog w = .ok #[(0, 1), (1, 1), (2, 1), (3, 1)] w := fun w => by kernel_rfl
def lkL (L : List (Nat × Value)) : List (Nat × Value) → List (Option Value)
 |[] => []
 |(d, _) :: r => lookupL d L :: lkL L r
def smL : List (Nat × Value) → List (Option Value)
 |[] => []
 |(_, v) :: r => some v :: smL r
theorem subL_of {L : List (Nat × Value)} : ∀ L', lkL L L' = smL L' → SubL L L'
 |[], _ => trivial
 |(_, _) :: r, h => by
   injection h with h1 h2
   exact ⟨h1, subL_of r h2⟩
theorem Ag.kp {n : Nat} {a : Act} {L : List (Nat × Value)} (h : Ag n a L) (L' : List (Nat × Value)) (e : lkL L L' = smL L') : Ag n a L' := h.keep L' (subL_of L' e)
theorem tU108 : Tryz.prog.underlying 108 = some (.slice 22) := Tryz.underlying108
theorem tU158 : Tryz.prog.underlying 158 = some (.slice 161) := Tryz.underlying158
theorem tU192 : Tryz.prog.underlying 192 = some (.slice 197) := Tryz.underlying192
theorem tU193 : Tryz.prog.underlying 193 = some (.map 3 3) := Tryz.underlying193
theorem tU205 : Tryz.prog.underlying 205 = some (.pointer 39) := Tryz.underlying205
theorem tU22 : Tryz.prog.underlying 22 = some (.int .u64) := Tryz.underlying22
theorem tU228 : Tryz.prog.underlying 228 = some (.slice 207) := Tryz.underlying228
theorem tU23 : Tryz.prog.underlying 23 = some (.slice 59) := Tryz.underlying23
theorem tU24 : Tryz.prog.underlying 24 = some (.int .u32) := Tryz.underlying24
theorem tU27 : Tryz.prog.underlying 27 = some (.slice 5) := Tryz.underlying27
theorem tU3 : Tryz.prog.underlying 3 = some (.int .i64) := Tryz.underlying3
theorem tU33 : Tryz.prog.underlying 33 = some (.int .u64) := Tryz.underlying33
theorem tU36 : Tryz.prog.underlying 36 = some (.slice 91) := Tryz.underlying36
theorem tU37 : Tryz.prog.underlying 37 = some (.slice 39) := Tryz.underlying37
theorem tU4 : Tryz.prog.underlying 4 = some (.bool) := Tryz.underlying4
theorem tU44 : Tryz.prog.underlying 44 = some (.slice 3) := Tryz.underlying44
theorem tU5 : Tryz.prog.underlying 5 = some (.int .u8) := Tryz.underlying5
theorem tU61 : Tryz.prog.underlying 61 = some (.slice 9) := Tryz.underlying61
theorem tU9 : Tryz.prog.underlying 9 = some (.string) := Tryz.underlying9
end Go.Proofs.YteacalmdpoblpaaGreat
