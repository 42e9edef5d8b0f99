/-
  PRINTED BY PROGRAM: the types that the walks of this seat meet.
-/
import Derived.Test.YtenokfdkckhhiaaGreatDoorProg
import Derived.Test.YtenokfdkckhhiaaGreatDoorQBuildNests1
import Derived.KernelRfl
namespace Go.Proofs.YtenokfdkckhhiaaGreatDoor
open Go.RowKit
theorem ti_3 : TI Tryz.prog 3 (.int .i64 0) 1 8 := TI.of (by kernel_rfl)
theorem ti_4 : TI Tryz.prog 4 (.bool false) 1 1 := TI.of (by kernel_rfl)
theorem ti_9 : TI Tryz.prog 9 (.string (Bs ([] : Str))) 1 16 := TI.of (by kernel_rfl)
theorem ti_25 : TI Tryz.prog 25 (Sl.v Sl.nil) 1 24 := TI.of (by kernel_rfl)
theorem ti_26 : TI Tryz.prog 26 (Sl.v Sl.nil) 1 24 := TI.of (by kernel_rfl)
theorem ti_28 : TI Tryz.prog 28 (.agg #[.int .i64 0,.string (Bs ([] : Str)),.string (Bs ([] : Str)),Sl.v Sl.nil,Sl.v Sl.nil]) 5 88 := TI.of (by kernel_rfl)
theorem ti_43 : TI Tryz.prog 43 (.agg #[.string (Bs ([] : Str)),.string (Bs ([] : Str)),.string (Bs ([] : Str)),.string (Bs ([] : Str)),.string (Bs ([] : Str)),.string (Bs ([] : Str)),.string (Bs ([] : Str)),.string (Bs ([] : Str))]) 8 128 := TI.of (by kernel_rfl)
theorem ti_51 : TI Tryz.prog 51 (.agg #[.int .i64 0,.string (Bs ([] : Str)),.string (Bs ([] : Str)),Sl.v Sl.nil,.bool false]) 5 72 := TI.of (by kernel_rfl)
theorem ti_53 : TI Tryz.prog 53 (.pointer none) 1 8 := TI.of (by kernel_rfl)
theorem ti_54 : TI Tryz.prog 54 (Sl.v Sl.nil) 1 24 := TI.of (by kernel_rfl)
theorem ti_56 : TI Tryz.prog 56 (.agg #[.int .i64 0,.int .i64 0,.string (Bs ([] : Str)),.string (Bs ([] : Str)),Sl.v Sl.nil,.pointer none,Sl.v Sl.nil]) 7 104 := TI.of (by kernel_rfl)
theorem ti_57 : TI Tryz.prog 57 (.pointer none) 1 8 := TI.of (by kernel_rfl)
theorem ti_60 : TI Tryz.prog 60 (.agg #[.pointer none,.pointer none,.int .i64 0,Sl.v Sl.nil,.pointer none,.int .i64 0,.bool false,.bool false]) 8 72 := TI.of (by kernel_rfl)
theorem ti_71 : TI Tryz.prog 71 (Sl.v Sl.nil) 1 24 := TI.of (by kernel_rfl)
theorem ti_73 : TI Tryz.prog 73 (.agg #[Sl.v Sl.nil]) 1 24 := TI.of (by kernel_rfl)
theorem ti_79 : TI Tryz.prog 79 (.agg #[.string (Bs ([] : Str)),.string (Bs ([] : Str))]) 2 32 := TI.of (by kernel_rfl)
theorem ti_123 : TI Tryz.prog 123 (.agg #[.int .i64 0,.string (Bs ([] : Str)),Sl.v Sl.nil]) 3 48 := TI.of (by kernel_rfl)
theorem ti_125 : TI Tryz.prog 125 (.agg #[.int .i64 0,.string (Bs ([] : Str)),Sl.v Sl.nil,.bool false]) 4 56 := TI.of (by kernel_rfl)
theorem ti_170 : TI Tryz.prog 170 (.agg #[.string (Bs ([] : Str)),.string (Bs ([] : Str))]) 2 32 := TI.of (by kernel_rfl)
theorem ti_183 : TI Tryz.prog 183 (.agg #[.pointer none,Sl.v Sl.nil]) 2 32 := TI.of (by kernel_rfl)
theorem ti_184 : TI Tryz.prog 184 (.agg #[.string (Bs ([] : Str)),.string (Bs ([] : Str))]) 2 32 := TI.of (by kernel_rfl)
theorem pl_28 : ∀ w,((#[{ name := "Kind",type := 3,offset := 0,embedded := false,tag := "",pkgPath := "",byteOffset := 0 },{ name := "Name",type := 9,offset := 1,embedded := false,tag := "",pkgPath := "",byteOffset := 8 },{ name := "Text",type := 9,offset := 2,embedded := false,tag := "",pkgPath := "",byteOffset := 24 },{ name := "Attrs",type := 25,offset := 3,embedded := false,tag := "",pkgPath := "",byteOffset := 40 },{ name := "Kids",type := 26,offset := 4,embedded := false,tag := "",pkgPath := "",byteOffset := 64 }] : Array Field).mapM fun (f : Field) => (do pure (f.offset,← sizeOf f.type) : Sem (Nat × Nat))).run Tryz.prog w = .ok #[(0,1),(1,1),(2,1),(3,1),(4,1)] w := fun w => by kernel_rfl
theorem pl_51 : ∀ w,((#[{ name := "Kind",type := 3,offset := 0,embedded := false,tag := "",pkgPath := "",byteOffset := 0 },{ name := "Name",type := 9,offset := 1,embedded := false,tag := "",pkgPath := "",byteOffset := 8 },{ name := "Text",type := 9,offset := 2,embedded := false,tag := "",pkgPath := "",byteOffset := 24 },{ name := "Attrs",type := 25,offset := 3,embedded := false,tag := "",pkgPath := "",byteOffset := 40 },{ name := "Raw",type := 4,offset := 4,embedded := false,tag := "",pkgPath := "",byteOffset := 64 }] : Array Field).mapM fun (f : Field) => (do pure (f.offset,← sizeOf f.type) : Sem (Nat × Nat))).run Tryz.prog w = .ok #[(0,1),(1,1),(2,1),(3,1),(4,1)] w := fun w => by kernel_rfl
theorem pl_56 : ∀ w,((#[{ name := "id",type := 3,offset := 0,embedded := false,tag := "",pkgPath := "topiary/build",byteOffset := 0 },{ name := "kind",type := 3,offset := 1,embedded := false,tag := "",pkgPath := "topiary/build",byteOffset := 8 },{ name := "name",type := 9,offset := 2,embedded := false,tag := "",pkgPath := "topiary/build",byteOffset := 16 },{ name := "text",type := 9,offset := 3,embedded := false,tag := "",pkgPath := "topiary/build",byteOffset := 32 },{ name := "attrs",type := 25,offset := 4,embedded := false,tag := "",pkgPath := "topiary/build",byteOffset := 48 },{ name := "parent",type := 53,offset := 5,embedded := false,tag := "",pkgPath := "topiary/build",byteOffset := 72 },{ name := "kids",type := 54,offset := 6,embedded := false,tag := "",pkgPath := "topiary/build",byteOffset := 80 }] : Array Field).mapM fun (f : Field) => (do pure (f.offset,← sizeOf f.type) : Sem (Nat × Nat))).run Tryz.prog w = .ok #[(0,1),(1,1),(2,1),(3,1),(4,1),(5,1),(6,1)] w := fun w => by kernel_rfl
theorem pl_60 : ∀ w,((#[{ name := "root",type := 53,offset := 0,embedded := false,tag := "",pkgPath := "topiary/build",byteOffset := 0 },{ name := "head",type := 53,offset := 1,embedded := false,tag := "",pkgPath := "topiary/build",byteOffset := 8 },{ name := "made",type := 3,offset := 2,embedded := false,tag := "",pkgPath := "topiary/build",byteOffset := 16 },{ name := "open",type := 54,offset := 3,embedded := false,tag := "",pkgPath := "topiary/build",byteOffset := 24 },{ name := "list",type := 57,offset := 4,embedded := false,tag := "",pkgPath := "topiary/build",byteOffset := 48 },{ name := "mode",type := 3,offset := 5,embedded := false,tag := "",pkgPath := "topiary/build",byteOffset := 56 },{ name := "foster",type := 4,offset := 6,embedded := false,tag := "",pkgPath := "topiary/build",byteOffset := 64 },{ name := "fresh",type := 4,offset := 7,embedded := false,tag := "",pkgPath := "topiary/build",byteOffset := 65 }] : Array Field).mapM fun (f : Field) => (do pure (f.offset,← sizeOf f.type) : Sem (Nat × Nat))).run Tryz.prog w = .ok #[(0,1),(1,1),(2,1),(3,1),(4,1),(5,1),(6,1),(7,1)] w := fun w => by kernel_rfl
theorem pl_73 : ∀ w,((#[{ name := "l",type := 71,offset := 0,embedded := false,tag := "",pkgPath := "topiary/format",byteOffset := 0 }] : Array Field).mapM fun (f : Field) => (do pure (f.offset,← sizeOf f.type) : Sem (Nat × Nat))).run Tryz.prog w = .ok #[(0,1)] w := fun w => by kernel_rfl
theorem pl_79 : ∀ w,((#[{ name := "Name",type := 9,offset := 0,embedded := false,tag := "",pkgPath := "",byteOffset := 0 },{ name := "Value",type := 9,offset := 1,embedded := false,tag := "",pkgPath := "",byteOffset := 16 }] : Array Field).mapM fun (f : Field) => (do pure (f.offset,← sizeOf f.type) : Sem (Nat × Nat))).run Tryz.prog w = .ok #[(0,1),(1,1)] w := fun w => by kernel_rfl
theorem pl_123 : ∀ w,((#[{ name := "ID",type := 3,offset := 0,embedded := false,tag := "",pkgPath := "",byteOffset := 0 },{ name := "Name",type := 9,offset := 1,embedded := false,tag := "",pkgPath := "",byteOffset := 8 },{ name := "Attrs",type := 25,offset := 2,embedded := false,tag := "",pkgPath := "",byteOffset := 24 }] : Array Field).mapM fun (f : Field) => (do pure (f.offset,← sizeOf f.type) : Sem (Nat × Nat))).run Tryz.prog w = .ok #[(0,1),(1,1),(2,1)] w := fun w => by kernel_rfl
theorem pl_125 : ∀ w,((#[{ name := "e",type := 123,offset := 0,embedded := false,tag := "",pkgPath := "topiary/format",byteOffset := 0 },{ name := "marker",type := 4,offset := 3,embedded := false,tag := "",pkgPath := "topiary/format",byteOffset := 48 }] : Array Field).mapM fun (f : Field) => (do pure (f.offset,← sizeOf f.type) : Sem (Nat × Nat))).run Tryz.prog w = .ok #[(0,3),(3,1)] w := fun w => by kernel_rfl
theorem pl_170 : ∀ w,((#[{ name := "name",type := 9,offset := 0,embedded := false,tag := "",pkgPath := "topiary/format",byteOffset := 0 },{ name := "attrs",type := 9,offset := 1,embedded := false,tag := "",pkgPath := "topiary/format",byteOffset := 16 }] : Array Field).mapM fun (f : Field) => (do pure (f.offset,← sizeOf f.type) : Sem (Nat × Nat))).run Tryz.prog w = .ok #[(0,1),(1,1)] w := fun w => by kernel_rfl
theorem eq_170 (p0 : Str) (p1 : Str) (q0 : Str) (q1 : Str) : EqA Tryz.prog 170 #[.string (Bs p0),.string (Bs p1)] #[.string (Bs q0),.string (Bs q1)] (decide (p0 = q0 ∧ p1 = q1)) := EqA.of (fs := [{ name := "name",type := 9,offset := 0,embedded := false,tag := "",pkgPath := "topiary/format",byteOffset := 0 },{ name := "attrs",type := 9,offset := 1,embedded := false,tag := "",pkgPath := "topiary/format",byteOffset := 16 }]) (by kernel_rfl) (by kernel_rfl) (by kernel_rfl) (by kernel_rfl) (fe_str (by decide) Tryz.underlying9 rfl rfl (fe_str (by decide) Tryz.underlying9 rfl rfl (fe_nil _ _))) (by simp [Bool.and_assoc])
abbrev pB (b o : Nat) : Value := .pointer (some ⟨b,o,none⟩)
def lkL (L : List (Nat × Value)) : List (Nat × Value) → List (Option Value)
 |[] => []
 |(d,_) :: r => lookupL d L :: lkL L r
def smL : List (Nat × Value) → List (Option Value)
 |[] => []
 |(_,v) :: r => some v :: smL r
theorem subL_of {L : List (Nat × Value)} : ∀ L',lkL L L' = smL L' → SubL L L'
 |[],_ => trivial
 |(_,_) :: r,h => by
   injection h with h1 h2
   exact ⟨h1,subL_of r h2⟩
theorem Ag.kp {n : Nat} {a : Act} {L : List (Nat × Value)} (h : Ag n a L) (L' : List (Nat × Value)) (e : lkL L L' = smL L') : Ag n a L' := h.keep L' (subL_of L' e)
theorem tU21 : Tryz.prog.underlying 21 = some (.int .i32) := Tryz.underlying21
theorem tU22 : Tryz.prog.underlying 22 = some (.slice 51) := Tryz.underlying22
theorem tU25 : Tryz.prog.underlying 25 = some (.slice 79) := Tryz.underlying25
theorem tU26 : Tryz.prog.underlying 26 = some (.slice 28) := Tryz.underlying26
theorem tU3 : Tryz.prog.underlying 3 = some (.int .i64) := Tryz.underlying3
theorem tU4 : Tryz.prog.underlying 4 = some (.bool) := Tryz.underlying4
theorem tU42 : Tryz.prog.underlying 42 = some (.slice 3) := Tryz.underlying42
theorem tU44 : Tryz.prog.underlying 44 = some (.slice 9) := Tryz.underlying44
theorem tU53 : Tryz.prog.underlying 53 = some (.pointer 56) := Tryz.underlying53
theorem tU54 : Tryz.prog.underlying 54 = some (.slice 53) := Tryz.underlying54
theorem tU57 : Tryz.prog.underlying 57 = some (.pointer 73) := Tryz.underlying57
theorem tU71 : Tryz.prog.underlying 71 = some (.slice 125) := Tryz.underlying71
theorem tU9 : Tryz.prog.underlying 9 = some (.string) := Tryz.underlying9
end Go.Proofs.YtenokfdkckhhiaaGreatDoor
