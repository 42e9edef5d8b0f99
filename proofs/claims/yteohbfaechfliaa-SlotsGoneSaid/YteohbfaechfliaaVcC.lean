/-
  Operations that read or make memory: what each yields. No program is in sight here.
-/
import Derived.Test.YteohbfaechfliaaVcB
import Derived.Laws.Cells
namespace Go.Proofs.Yteohbfaechfliaa
open Go.RowKit

/-- A type's row of the program's table: its zero value, its cells, its bytes. -/
def TI (P : Program) (t : TypeId) (z : Value) (size bytes : Nat) : Prop := ∃ i, P.info? t = some i ∧ i.zero = some z ∧ i.size = size ∧ i.bytes = bytes
theorem TI.of {P : Program} {e : TypeId} {z : Value} {size bytes : Nat} (h : (P.info? e).map (fun i => (i.zero, i.size, i.bytes)) = some (some z, size, bytes)) : TI P e z size bytes := info_parts h

section ti
variable {P : Program} {t : TypeId} {z : Value} {size bytes : Nat}
theorem TI.sizeOf (h : TI P t z size bytes) (w : World) : (Go.sizeOf t).run P w = .ok size w := by
  obtain ⟨i, hi, h1, h2, h3⟩ := h
  have e : program.run P w = .ok P w := rfl
  simp [Go.sizeOf, typeInfo, e, hi, h2]
theorem TI.bytesOf (h : TI P t z size bytes) (w : World) : ∃ i, (typeInfo t).run P w = .ok i w ∧ i.zero = some z ∧ i.size = size ∧ i.bytes = bytes := by
  obtain ⟨i, hi, h1, h2, h3⟩ := h
  have e : program.run P w = .ok P w := rfl
  exact ⟨i, by simp [typeInfo, e, hi], h1, h2, h3⟩
theorem TI.zeroValue (h : TI P t z size bytes) (w : World) : (Go.zeroValue t).run P w = .ok z w := by
  obtain ⟨i, hi, h1, h2, h3⟩ := h
  have e : program.run P w = .ok P w := rfl
  simp [Go.zeroValue, typeInfo, e, hi, h1]
end ti

/-- The cells from an address on. -/
def Cells (w : World) (p : Addr) (cs : List Value) : Prop := ∀ j v, cs[j]? = some v → w.cell? (p.add j) = some v
theorem Cells.ext {w w' : World} {p : Addr} {cs : List Value} (h : Cells w p cs) (e : Ext w w') : Cells w' p cs := fun j v hv => e.cell (h j v hv)
theorem Addr.add_block (p : Addr) (j : Nat) : (p.add j).block = p.block := by unfold Addr.add; split <;> rfl
theorem Cells.chg {F : List Nat} {w w' : World} {p : Addr} {cs : List Value} (h : Cells w p cs) (e : Chg F w w') (hp : p.block ∉ F) : Cells w' p cs := fun j v hv => e.cell (h j v hv) (by rw [Addr.add_block]; exact hp)
theorem Box.cells {w : World} {B : Nat} {T : TypeId} {cs : List Value} (h : Box w B T cs) : Cells w ⟨B, 0, none⟩ cs := fun j v hv => by
  rw [Addr.add_lit, Nat.zero_add]; exact h.cell j v hv
/-- Some of a block's cells. -/
theorem Box.part {w : World} {B : Nat} {T : TypeId} {cs : List Value} (h : Box w B T cs) (o : Nat) (ds : List Value) (hd : (cs.drop o).take ds.length = ds) : Cells w ⟨B, o, none⟩ ds := fun j v hv => by
  rw [Addr.add_lit]
  refine h.cell (o + j) v ?_
  have hlt : j < ds.length := (List.getElem?_eq_some_iff.1 hv).1
  rw [← hd] at hv
  rw [List.getElem?_take] at hv
  simpa [hlt, List.getElem?_drop] using hv

def notAgg : TypeDesc → Bool
  | .struct _ | .array _ _ => false
  | _ => true
theorem run_isAgg_no {P : Program} {t : TypeId} {d : TypeDesc} (h : P.underlying t = some d) (hd : notAgg d = true) (w : World) : (isAgg t).run P w = .ok false w := by
  simp only [isAgg, Sem.run_bind, run_underlying h, Result.andThen_ok]
  cases d <;> first | rfl | (simp [notAgg] at hd)
theorem run_isAgg_yes {P : Program} {t : TypeId} {d : TypeDesc} (h : P.underlying t = some d) (hd : notAgg d = false) (w : World) : (isAgg t).run P w = .ok true w := by
  simp only [isAgg, Sem.run_bind, run_underlying h, Result.andThen_ok]
  cases d <;> first | rfl | (simp [notAgg] at hd)

/-- A block's first cells anew, from an offset on. -/
def setCells (w : World) (B : Nat) : Nat → List Value → World
  | _, [] => w
  | o, v :: vs => setCells (w.setCell ⟨B, o, none⟩ v) B (o + 1) vs
def putAt (cs : List Value) : Nat → List Value → List Value
  | _, [] => cs
  | o, v :: vs => putAt (cs.set o v) (o + 1) vs
theorem setCells_chg (B : Nat) (vs : List Value) : ∀ (w : World) (o : Nat), Chg [B] w (setCells w B o vs) := by
  induction vs with
  | nil => intro w o; exact Chg.refl _ _
  | cons v vs ih => intro w o; exact (Chg.setCell w ⟨B, o, none⟩ v).trans (ih _ _)
theorem setCells_box {B : Nat} {T : TypeId} (vs : List Value) : ∀ {w : World} {o : Nat} {cs : List Value}, Box w B T cs → Box (setCells w B o vs) B T (putAt cs o vs) := by
  induction vs with
  | nil => intro w o cs h; exact h
  | cons v vs ih => intro w o cs h; exact ih (h.setCell o v)
theorem run_storeCells_box {P : Program} {B : Nat} {T : TypeId} (o : Nat) (vs : List Value) : ∀ (i : Nat) {w : World} {cs : List Value}, Box w B T cs → o + i + vs.length ≤ cs.length → (∀ v ∈ vs, v.oneCell' = true) →
    (storeCells ⟨B, o, none⟩ vs i).run P w = .ok () (setCells w B (o + i) vs) := by
  induction vs with
  | nil => intro i w cs h hl h1; simp [storeCells, setCells]
  | cons v vs ih =>
    intro i w cs h hl h1
    simp only [List.length_cons] at hl
    have hc : w.cell? ⟨B, o + i, none⟩ = some (cs[o + i]'(by omega)) := h.cell (o + i) _ (List.getElem?_eq_getElem (by omega))
    have hs : (store ((⟨B, o, none⟩ : Addr).add i) v).run P w = .ok () (w.setCell ⟨B, o + i, none⟩ v) := by
      rw [run_store P w _ v _ (h1 v (by simp)), Addr.add_lit, hc]
      simp [h.free]
    simp only [storeCells, Sem.run_bind, hs, Result.andThen_ok]
    have := ih (i + 1) (h.setCell (o + i) v) (by simp; omega) (fun u hu => h1 u (by simp [hu]))
    rw [show o + (i + 1) = o + i + 1 by omega] at this
    simpa [setCells] using this

section runs
variable {P : Program} {ρ : Operand → Value} {w : World} {dst : Option Nat} {ty : TypeId} {pos : String} {after : Array Edge} {guard : Option (Nat × Bool)}

theorem r_box {t : TypeId} {x : Operand} {v : Value} {cs : List Value} (hx : ρ x = v) (hc : v.cells = cs.toArray) :
    (execOp ρ ⟨dst, .box t x, ty, pos, after, guard⟩).run P w = .ok (.value (.pointer (some ⟨w.heap.size, 0, none⟩))) (w.alloc (.cells cs.toArray t (0, 0))) := by
  simp only [execOp, hx, Instr.box, newVar, newRow, newObj, hc]; rfl
theorem r_alloc {t : TypeId} {z : Value} {size bytes : Nat} {cs : List Value} (ht : TI P t z size bytes) (hc : z.cells = cs.toArray) :
    (execOp ρ ⟨dst, .alloc t, ty, pos, after, guard⟩).run P w = .ok (.value (.pointer (some ⟨w.heap.size, 0, none⟩))) (w.alloc (.cells cs.toArray t (0, 0))) := by
  simp only [execOp, Instr.alloc, newVar, newRow, newObj, Sem.run_bind, ht.zeroValue w, Result.andThen_ok, hc]; rfl

theorem r_load1 {t : TypeId} {x : Operand} {p : Addr} {v : Value} {d : TypeDesc} (hu : P.underlying t = some d) (hd : notAgg d = true) (hx : ρ x = .pointer (some p)) (hc : w.cell? p = some v) :
    (execOp ρ ⟨dst, .load t x, ty, pos, after, guard⟩).run P w = .ok (.value v) w := by
  simp only [execOp, Instr.loadAt, hx, Instr.sureAddr, loadVar, Sem.run_bind, Sem.run_pure, Result.andThen_ok, run_isAgg_no hu hd w]
  simp [hc]
theorem r_loadN {t : TypeId} {x : Operand} {p : Addr} {cs : List Value} {d : TypeDesc} {z : Value} {bytes : Nat} (hu : P.underlying t = some d) (hd : notAgg d = false) (ht : TI P t z cs.length bytes) (hx : ρ x = .pointer (some p)) (hc : Cells w p cs) :
    (execOp ρ ⟨dst, .load t x, ty, pos, after, guard⟩).run P w = .ok (.value (.agg cs.toArray)) w := by
  simp only [execOp, Instr.loadAt, hx, Instr.sureAddr, loadVar, Sem.run_bind, Sem.run_pure, Result.andThen_ok, run_isAgg_yes hu hd w, if_true, ht.sizeOf w, run_loadCells_list w p cs hc]

theorem r_store {t : TypeId} {x y : Operand} {B o : Nat} {T : TypeId} {cs vs : List Value} {v z : Value} {bytes : Nat} (hx : ρ x = .pointer (some ⟨B, o, none⟩)) (hy : ρ y = v) (hv : v.cells = vs.toArray) (ht : TI P t z vs.length bytes)
    (hb : Box w B T cs) (hl : Nat.ble (o + vs.length) cs.length = true) (h1 : ∀ v ∈ vs, v.oneCell' = true) :
    (execOp ρ ⟨dst, .store t x y, ty, pos, after, guard⟩).run P w = .ok .skip (setCells w B o vs) := by
  have hl' : o + vs.length ≤ cs.length := by simpa using hl
  have := run_storeCells_box (P := P) o vs 0 hb (by simpa using hl') h1
  simp only [execOp, Instr.storeAt, hx, hy, Instr.sureAddr, storeVar, Sem.run_bind, Sem.run_pure, Result.andThen_ok, ht.sizeOf w, hv]
  simp only [List.size_toArray, ne_eq, not_true_eq_false, if_false]
  rw [show (o + 0) = o from rfl] at this
  simp [this]

theorem r_fieldAddr {s : TypeId} {x : Operand} {p : Addr} {i : Nat} {fs : Array Field} {f : Field} {z : Value} {size bytes : Nat} (hx : ρ x = .pointer (some p)) (hu : P.underlying s = some (.struct fs)) (hf : fs[i]? = some f) (ht : TI P f.type z size bytes) (h0 : size ≠ 0) :
    (execOp ρ ⟨dst, .fieldAddr s x i, ty, pos, after, guard⟩).run P w = .ok (.value (.pointer (some (p.add f.offset)))) w := by
  simp only [execOp, Instr.fieldAt, Sem.run_bind, run_underlying hu, Result.andThen_ok, hf, hx, Instr.sureAddr, Sem.run_pure, fieldPlace, ht.sizeOf w, if_neg h0]
theorem r_field {s : TypeId} {x : Operand} {i : Nat} {fs : Array Field} {f : Field} {cs : Array Value} {v : Value} {d : TypeDesc} (hx : ρ x = .agg cs) (hu : P.underlying s = some (.struct fs)) (hf : fs[i]? = some f) (hd : P.underlying f.type = some d) (hn : notAgg d = true) (hv : cs[f.offset]? = some v) :
    (execOp ρ ⟨dst, .field s x i, ty, pos, after, guard⟩).run P w = .ok (.value v) w := by
  simp [execOp, Instr.field, run_underlying hu, hf, hx, asAgg, part, run_isAgg_no hd hn w, hv]
theorem r_indexAddr {t e : TypeId} {x y : Operand} {s : Sl} {k : IntKind} {i : Int} {p : Addr} {z : Value} {size bytes : Nat} (hx : ρ x = s.v) (hy : ρ y = .int k i) (hu : P.underlying t = some (.slice e)) (ht : TI P e z size bytes) (hb : 0 ≤ i ∧ i < s.n) (ha : s.a = some p) :
    (execOp ρ ⟨dst, .indexAddr t x y, ty, pos, after, guard⟩).run P w = .ok (.value (.pointer (some (p.add (i.toNat * size))))) w := by
  simp only [execOp, Instr.indexAt, hx, hy, asIntOf, Sem.run_bind, Sem.run_pure, Result.andThen_ok, run_underlying hu, Sl.v, ha, if_pos hb, ht.sizeOf w]
theorem r_indexAddrA {t e : TypeId} {x y : Operand} {n : Nat} {k : IntKind} {i : Int} {p : Addr} {z : Value} {size bytes : Nat} (hx : ρ x = .pointer (some p)) (hy : ρ y = .int k i) (hu : P.underlying t = some (.array n e)) (ht : TI P e z size bytes) (hb : 0 ≤ i ∧ i < n) :
    (execOp ρ ⟨dst, .indexAddr t x y, ty, pos, after, guard⟩).run P w = .ok (.value (.pointer (some (p.add (i.toNat * size))))) w := by
  simp only [execOp, Instr.indexAt, hx, hy, asIntOf, Sem.run_bind, Sem.run_pure, Result.andThen_ok, run_underlying hu, Instr.sureAddr, if_pos hb, ht.sizeOf w]
theorem r_sindex {t : TypeId} {x y : Operand} {s : Str} {k : IntKind} {i : Int} (hx : ρ x = .string (Bs s)) (hy : ρ y = .int k i) (hu : P.underlying t = some .string) (hb : 0 ≤ i ∧ i < s.length) :
    (execOp ρ ⟨dst, .index t x y, ty, pos, after, guard⟩).run P w = .ok (.value (.int .u8 ((s.getD i.toNat 0).toNat : Int))) w := by
  have hlt : i.toNat < s.length := by omega
  have e : (Bs s)[i.toNat]? = some (s.getD i.toNat 0) := by
    have hz : i.toNat < (Bs s).size := by rw [Bs_size]; exact hlt
    rw [getElem?_pos (Bs s) i.toNat hz]
    simp [Bs, ByteArray.getElem_eq_getElem_data, List.getD_eq_getElem?_getD, hlt]
  simp only [execOp, Instr.index, hx, hy, asIntOf, Sem.run_bind, Sem.run_pure, Result.andThen_ok, run_underlying hu, if_pos hb.1, e]

/-- A slice's part. -/
def Sl.cut (s : Sl) (size lo hi mx : Nat) : Sl := ⟨if mx = lo then s.a else s.a.map (·.add (lo * size)), hi - lo, mx - lo⟩

theorem run_sliceBound {k : IntKind} {i : Int} {y : Nat} {code : BoundsCode} (h : 0 ≤ i ∧ i ≤ y) : (Instr.sliceBound (.int k i) y code).run P w = .ok i.toNat w := by
  simp [Instr.sliceBound, asIntOf, h]

theorem r_slice2 {t e : TypeId} {x : Operand} {lo hi : Operand} {s : Sl} {j k : IntKind} {l h : Int} {z : Value} {size bytes : Nat} (hx : ρ x = s.v) (hl : ρ lo = .int j l) (hh : ρ hi = .int k h) (hu : P.underlying t = some (.slice e)) (ht : TI P e z size bytes) (hb : 0 ≤ l ∧ l ≤ h ∧ h ≤ s.c) :
    (execOp ρ ⟨dst, .slice t x (some lo) (some hi) none, ty, pos, after, guard⟩).run P w = .ok (.value (s.cut size l.toNat h.toNat s.c).v) w := by
  have h1 : 0 ≤ h ∧ h ≤ s.c := by omega
  have h2 : 0 ≤ l ∧ l ≤ (h.toNat : Int) := by omega
  simp [execOp, Instr.sliceAt, Instr.slice, Instr.sliceBounds, hx, hl, hh, Sl.v, Sl.cut, run_underlying hu, run_sliceBound h1, run_sliceBound h2, ht.sizeOf w]
theorem r_sliceH {t e : TypeId} {x : Operand} {hi : Operand} {s : Sl} {k : IntKind} {h : Int} {z : Value} {size bytes : Nat} (hx : ρ x = s.v) (hh : ρ hi = .int k h) (hu : P.underlying t = some (.slice e)) (ht : TI P e z size bytes) (hb : 0 ≤ h ∧ h ≤ s.c) :
    (execOp ρ ⟨dst, .slice t x none (some hi) none, ty, pos, after, guard⟩).run P w = .ok (.value (s.cut size 0 h.toNat s.c).v) w := by
  simp [execOp, Instr.sliceAt, Instr.slice, Instr.sliceBounds, hx, hh, Sl.v, Sl.cut, run_underlying hu, run_sliceBound hb, ht.sizeOf w]
theorem r_sliceL {t e : TypeId} {x : Operand} {lo : Operand} {s : Sl} {k : IntKind} {l : Int} {z : Value} {size bytes : Nat} (hx : ρ x = s.v) (hl : ρ lo = .int k l) (hu : P.underlying t = some (.slice e)) (ht : TI P e z size bytes) (hb : 0 ≤ l ∧ l ≤ s.n) :
    (execOp ρ ⟨dst, .slice t x (some lo) none none, ty, pos, after, guard⟩).run P w = .ok (.value (s.cut size l.toNat s.n s.c).v) w := by
  simp [execOp, Instr.sliceAt, Instr.slice, Instr.sliceBounds, hx, hl, Sl.v, Sl.cut, run_underlying hu, run_sliceBound hb, ht.sizeOf w]
theorem r_slice0 {t e : TypeId} {x : Operand} {s : Sl} {z : Value} {size bytes : Nat} (hx : ρ x = s.v) (hu : P.underlying t = some (.slice e)) (ht : TI P e z size bytes) :
    (execOp ρ ⟨dst, .slice t x none none none, ty, pos, after, guard⟩).run P w = .ok (.value (s.cut size 0 s.n s.c).v) w := by
  simp [execOp, Instr.sliceAt, Instr.slice, Instr.sliceBounds, hx, Sl.v, Sl.cut, run_underlying hu, ht.sizeOf w]
theorem r_slice3 {t e : TypeId} {x : Operand} {lo hi mx : Operand} {s : Sl} {j k q : IntKind} {l h m : Int} {z : Value} {size bytes : Nat} (hx : ρ x = s.v) (hl : ρ lo = .int j l) (hh : ρ hi = .int k h) (hm : ρ mx = .int q m) (hu : P.underlying t = some (.slice e)) (ht : TI P e z size bytes) (hb : 0 ≤ l ∧ l ≤ h ∧ h ≤ m ∧ m ≤ s.c) :
    (execOp ρ ⟨dst, .slice t x (some lo) (some hi) (some mx), ty, pos, after, guard⟩).run P w = .ok (.value (s.cut size l.toNat h.toNat m.toNat).v) w := by
  have h0 : 0 ≤ m ∧ m ≤ s.c := by omega
  have h1 : 0 ≤ h ∧ h ≤ (m.toNat : Int) := by omega
  have h2 : 0 ≤ l ∧ l ≤ (h.toNat : Int) := by omega
  simp [execOp, Instr.sliceAt, Instr.slice, Instr.sliceBounds, hx, hl, hh, hm, Sl.v, Sl.cut, run_underlying hu, run_sliceBound h0, run_sliceBound h1, run_sliceBound h2, ht.sizeOf w]
theorem r_slice3H {t e : TypeId} {x : Operand} {hi mx : Operand} {s : Sl} {k q : IntKind} {h m : Int} {z : Value} {size bytes : Nat} (hx : ρ x = s.v) (hh : ρ hi = .int k h) (hm : ρ mx = .int q m) (hu : P.underlying t = some (.slice e)) (ht : TI P e z size bytes) (hb : 0 ≤ h ∧ h ≤ m ∧ m ≤ s.c) :
    (execOp ρ ⟨dst, .slice t x none (some hi) (some mx), ty, pos, after, guard⟩).run P w = .ok (.value (s.cut size 0 h.toNat m.toNat).v) w := by
  have h0 : 0 ≤ m ∧ m ≤ s.c := by omega
  have h1 : 0 ≤ h ∧ h ≤ (m.toNat : Int) := by omega
  simp [execOp, Instr.sliceAt, Instr.slice, Instr.sliceBounds, hx, hh, hm, Sl.v, Sl.cut, run_underlying hu, run_sliceBound h0, run_sliceBound h1, ht.sizeOf w]

theorem Bs_extract (s : Str) (l h : Nat) : (Bs s).extract l h = Bs ((s.drop l).take (h - l)) := by
  apply ByteArray.ext
  simp [Bs, ByteArray.data_extract]
theorem r_sslice2 {t : TypeId} {x lo hi : Operand} {s : Str} {j k : IntKind} {l h : Int} (hx : ρ x = .string (Bs s)) (hl : ρ lo = .int j l) (hh : ρ hi = .int k h) (hu : P.underlying t = some .string) (hb : 0 ≤ l ∧ l ≤ h ∧ h ≤ s.length) :
    (execOp ρ ⟨dst, .slice t x (some lo) (some hi) none, ty, pos, after, guard⟩).run P w = .ok (.value (.string (Bs ((s.drop l.toNat).take (h.toNat - l.toNat))))) w := by
  have h1 : 0 ≤ h ∧ h ≤ ((Bs s).size : Int) := by rw [Bs_size]; omega
  have h2 : 0 ≤ l ∧ l ≤ (h.toNat : Int) := by omega
  simp [execOp, Instr.sliceAt, Instr.slice, Instr.sliceBounds, hx, hl, hh, run_underlying hu, run_sliceBound h1, run_sliceBound h2, Bs_extract]
theorem r_ssliceH {t : TypeId} {x hi : Operand} {s : Str} {k : IntKind} {h : Int} (hx : ρ x = .string (Bs s)) (hh : ρ hi = .int k h) (hu : P.underlying t = some .string) (hb : 0 ≤ h ∧ h ≤ s.length) :
    (execOp ρ ⟨dst, .slice t x none (some hi) none, ty, pos, after, guard⟩).run P w = .ok (.value (.string (Bs (s.take h.toNat)))) w := by
  have h1 : 0 ≤ h ∧ h ≤ ((Bs s).size : Int) := by rw [Bs_size]; omega
  simp [execOp, Instr.sliceAt, Instr.slice, Instr.sliceBounds, hx, hh, run_underlying hu, run_sliceBound h1, Bs_extract]
theorem r_ssliceL {t : TypeId} {x lo : Operand} {s : Str} {k : IntKind} {l : Int} (hx : ρ x = .string (Bs s)) (hl : ρ lo = .int k l) (hu : P.underlying t = some .string) (hb : 0 ≤ l ∧ l ≤ s.length) :
    (execOp ρ ⟨dst, .slice t x (some lo) none none, ty, pos, after, guard⟩).run P w = .ok (.value (.string (Bs (s.drop l.toNat)))) w := by
  have h1 : 0 ≤ l ∧ l ≤ (s.length : Int) := by omega
  have e : (s.drop l.toNat).take (s.length - l.toNat) = s.drop l.toNat := List.take_of_length_le (by simp)
  simp [execOp, Instr.sliceAt, Instr.slice, Instr.sliceBounds, hx, hl, run_underlying hu, run_sliceBound h1, Bs_extract, Bs_size, e]

/-- An operation of which is known that it runs well: what it leaves. -/
def RunK (P : Program) (m : Sem Value) (w : World) (bx : List Nat) (K : Value → World → Prop) : Prop :=
  ∃ v w', m.run P w = .ok v w' ∧ NoTouch bx w w' ∧ w.heap.size ≤ w'.heap.size ∧ K v w'

theorem r_append {t u : TypeId} {x y : Operand} {v1 v2 v : Value} {w' : World} (hx : ρ x = v1) (hy : ρ y = v2) (hr : (Builtin.append_ #[t, u] ty #[v1, v2]).run P w = .ok v w') :
    (execOp ρ ⟨dst, .call { callee := .builtin .append, args := #[x, y], argTypes := #[t, u] }, ty, pos, after, guard⟩).run P w = .ok (.value v) w' := by
  simp [execOp, resolve, invoke, builtin, hx, hy, hr]
theorem r_copy {t u : TypeId} {x y : Operand} {v1 v2 v : Value} {w' : World} (hx : ρ x = v1) (hy : ρ y = v2) (hr : (Builtin.copy_ #[t, u] ty #[v1, v2]).run P w = .ok v w') :
    (execOp ρ ⟨dst, .call { callee := .builtin .copy, args := #[x, y], argTypes := #[t, u] }, ty, pos, after, guard⟩).run P w = .ok (.value v) w' := by
  simp [execOp, resolve, invoke, builtin, hx, hy, hr]
theorem r_convR {s d : TypeId} {x : Operand} {v1 v : Value} {w' : World} (hx : ρ x = v1) (hr : (convert s d v1).run P w = .ok v w') :
    (execOp ρ ⟨dst, .convert s d x, ty, pos, after, guard⟩).run P w = .ok (.value v) w' := by
  simp [execOp, hx, hr]

end runs

end Go.Proofs.Yteohbfaechfliaa
