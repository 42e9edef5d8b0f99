/-
  Slices of bytes: how they read, what conversions and append do with them. No program is in sight here.
-/
import Derived.Test.YteohbfaechfliaaRd
import Derived.Lib.AppendStr
import Derived.Lib.SlBytesConst
namespace Go.Proofs.Yteohbfaechfliaa
open Go.RowKit

/-- A byte's cell. -/
def bc (x : UInt8) : List Value := [.int .u8 (x.toNat : Int)]
/-- The slice s reads as these bytes. -/
def RdB (A : List Nat) (w : World) (s : Sl) (xs : List UInt8) : Prop := Row A w s 1 (xs.map bc)
def OwnB (A : List Nat) (w : World) (s : Sl) (T : TypeId) (xs : List UInt8) : Prop := Own A w s 1 T (xs.map bc)
def AppB (A : List Nat) (w : World) (s : Sl) (T : TypeId) (xs : List UInt8) : Prop := App A w s 1 T (xs.map bc)

theorem RdB.nil (A : List Nat) (w : World) : RdB A w Sl.nil [] := Row.nil A w 1
theorem RdB.ext {A : List Nat} {w w' : World} {s : Sl} {xs : List UInt8} (h : RdB A w s xs) (c : Ext w w') : RdB A w' s xs := Row.ext h c
theorem RdB.chg {A F : List Nat} {w w' : World} {s : Sl} {xs : List UInt8} (h : RdB A w s xs) (c : Chg F w w') (hF : ∀ b ∈ F, b ∈ A) : RdB A w' s xs := Row.chg h c hF
theorem RdB.len {A : List Nat} {w : World} {s : Sl} {xs : List UInt8} (h : RdB A w s xs) : s.n = xs.length := by have := Row.len h; simpa using this
theorem RdB.less {A A' : List Nat} {w : World} {s : Sl} {xs : List UInt8} (h : RdB A w s xs) (hA : ∀ b ∈ A', b ∈ A) : RdB A' w s xs := Row.less h hA
theorem RdB.most {A : List Nat} {w : World} {s : Sl} {xs : List UInt8} (h : RdB A w s xs) : s.n ≤ s.c ∧ s.c ≤ 9223372036854775807 := by
  have h1 := Row.cap h; have h2 := Row.most h; unfold maxLen at h2; exact ⟨h1, by omega⟩
theorem OwnB.rd {A : List Nat} {w : World} {s : Sl} {T : TypeId} {xs : List UInt8} (h : OwnB A w s T xs) : RdB A w s xs := Own.row h
theorem AppB.rd {A : List Nat} {w : World} {s : Sl} {T : TypeId} {xs : List UInt8} (h : AppB A w s T xs) : RdB A w s xs := App.row h
theorem OwnB.app {A : List Nat} {w : World} {s : Sl} {T : TypeId} {xs : List UInt8} (h : OwnB A w s T xs) : AppB A w s T xs := .inl h

theorem getD_map_bc (xs : List UInt8) (i : Nat) (h : i < xs.length) : (xs.map bc).getD i [] = bc (xs.getD i 0) := by
  simp [List.getD_eq_getElem?_getD, h]

theorem RdB.at {A : List Nat} {w : World} {s : Sl} {xs : List UInt8} (h : RdB A w s xs) {i : Int} (h0 : 0 ≤ i) (h1 : i < s.n) :
    ∃ p, s.a = some p ∧ p.block ∉ A ∧ w.cell? (p.add (i.toNat * 1)) = some (.int .u8 ((xs.getD i.toNat 0).toNat : Int)) := by
  have hl := h.len
  obtain ⟨p, e1, e2, e3, e4⟩ := Row.at_ h i.toNat (by simp; omega)
  refine ⟨p, e1, e2, ?_⟩
  have := e3 0 (.int .u8 ((xs.getD i.toNat 0).toNat : Int)) (by rw [getD_map_bc xs _ (by omega)]; rfl)
  rwa [Addr.add_zero'] at this
/-- The cell at a place, whatever its address is called. -/
theorem RdB.cell {A : List Nat} {w : World} {s : Sl} {xs : List UInt8} (h : RdB A w s xs) {i : Int} (h0 : 0 ≤ i) (h1 : i < s.n) {p : Addr} (hp : s.a = some p) :
    w.cell? (p.add (i.toNat * 1)) = some (.int .u8 ((xs.getD i.toNat 0).toNat : Int)) := by
  obtain ⟨q, e1, _, e3⟩ := h.at h0 h1
  rw [hp] at e1; cases e1; exact e3

theorem RdB.cut {A : List Nat} {w : World} {s : Sl} {xs : List UInt8} (h : RdB A w s xs) (lo hi mx : Nat) (h1 : lo ≤ hi) (h2 : hi ≤ s.n) (h3 : hi ≤ mx) (h4 : mx ≤ s.c) : RdB A w (s.cut 1 lo hi mx) ((xs.drop lo).take (hi - lo)) := by
  have := Row.cut h lo hi mx h1 h2 h3 h4
  unfold RdB
  rw [List.map_take, List.map_drop]; exact this

theorem strOfNums_bytes (xs : List UInt8) : strOfNums (xs.map fun x => ((x.toNat : Nat) : Int)) = Bs xs := by
  unfold strOfNums Bs
  congr 1
  congr 1
  rw [List.map_map]
  conv => rhs; rw [← List.map_id xs]
  apply List.map_congr_left
  intro x _
  simp

/-- A slice of bytes as a text. -/
theorem RdB.conv {P : Program} {A : List Nat} {w : World} {s : Sl} {xs : List UInt8} (h : RdB A w s xs) {src dst e : TypeId} (hs : P.underlying src = some (.slice e)) (he : P.underlying e = some (.int .u8)) (hd : P.underlying dst = some .string) :
    (convert src dst s.v).run P w = .ok (.string (Bs xs)) w := by
  have hl := h.len
  cases hx : xs with
  | nil =>
    rw [hx] at hl
    cases ha : s.a with
    | none =>
      have := run_convert_bytes_nil (P := P) w src e hs he s.n s.c dst hd
      unfold Sl.v; rw [ha, this]; rfl
    | some p =>
      rw [show s.v = .slice (some p) 0 s.c by unfold Sl.v; rw [ha, hl]; rfl]
      rw [run_convert_bytes_string w src dst e _ 0 s.c hs he hd]
      have := run_bytesToString (P := P) w p 0 s.c [] (by simp [loadCells, loadCellsFrom])
      rw [this]; rfl
  | cons x r =>
    obtain ⟨p, e1, _, e3⟩ := h.at (i := 0) (Int.le_refl _) (by rw [hl, hx]; simp)
    have hsp := World.cell?_spot e3
    have hsp' : p.spot = none := by simpa [Addr.add] using hsp
    obtain ⟨b, off, sp⟩ := p
    simp only at hsp'
    subst hsp'
    have := run_convert_bytes_arg (P := P) w src e hs he b off s.n s.c (xs.map fun x => ((x.toNat : Nat) : Int)) (by simp [hl]) (fun i hi => by
      have := h.cell (i := (i : Int)) (by omega) (by omega) e1
      rw [Addr.add_lit] at this
      simp only [Int.toNat_natCast, Nat.mul_one] at this
      rw [this]
      have hlt : i < xs.length := by omega
      simp [List.getD_eq_getElem?_getD, hlt]) dst hd
    unfold Sl.v; rw [e1, this, strOfNums_bytes, hx]

/-- A constant text as bytes. -/
theorem conv_const {P : Program} {w : World} {B : Nat} {t e : TypeId} {cs : List Value} (h : Box w B e cs) (n c : Nat) (ht : P.underlying t = some (.slice e)) (he : P.underlying e = some (.int .u8)) :
    ∃ w', (convert t t (.slice (some ⟨B, 0, none⟩) n c)).run P w = .ok (.slice (some ⟨B, 0, none⟩) n c) w' ∧ Chg [B] w w' ∧ Cells w' ⟨B, 0, none⟩ cs := by
  have hsh : w.shape? B = some (e, cs.length) := by unfold Box at h; unfold World.shape?; rw [h]; simp
  have hb : (w.freeze ⟨B, cs.length, none⟩ 1).heap[B]? = some (.cells cs.toArray e (cs.length, cs.length + 1)) := by
    unfold Box at h
    unfold World.freeze
    rw [if_neg (by decide)]
    simp [Array.getElem?_modify, h]
  refine ⟨w.freeze ⟨B, cs.length, none⟩ 1, ?_, ?_, ?_⟩
  · simp [convert, run_underlying ht, run_underlying he, markStringish, hsh]
  · refine ⟨?_, ?_, ?_, ?_, ?_⟩
    · unfold World.freeze; split <;> rfl
    · unfold World.freeze; split <;> rfl
    · unfold World.freeze; split <;> rfl
    · unfold World.freeze; split <;> simp
    · intro k _ hk
      unfold World.freeze
      split
      · rfl
      · simp only [Array.getElem?_modify]
        rw [if_neg (by simpa using fun h => hk (by simp [h]))]
  · intro j v hv
    rw [Addr.add_lit, Nat.zero_add]
    simp [World.cell?, hb, hv]

theorem flatten_bc (xs : List UInt8) : (xs.map bc).flatten = xs.map fun x => .int .u8 ((x.toNat : Nat) : Int) := by
  induction xs with
  | nil => rfl
  | cons x r ih => simp only [List.map_cons, List.flatten_cons, ih, bc, List.singleton_append]
theorem ones_bc (xs : List UInt8) : ∀ u ∈ (xs.map bc).flatten, u.oneCell' = true := by
  rw [flatten_bc]; intro u hu; simp at hu; obtain ⟨x, _, rfl⟩ := hu; rfl
theorem each_bc (xs : List UInt8) : ∀ u ∈ xs.map bc, u.length = 1 := by
  intro u hu; simp at hu; obtain ⟨x, _, rfl⟩ := hu; rfl

/-- A block of bytes read as a slice. -/
theorem RdB.of_cells {w : World} {p : Addr} {xs : List UInt8} {c : Nat} (h : Cells w p (xs.map fun x => .int .u8 ((x.toNat : Nat) : Int))) (hc : xs.length ≤ c) (hm : c ≤ maxLen) (A : List Nat) (hA : p.block ∉ A) : RdB A w ⟨some p, xs.length, c⟩ xs := by
  refine ⟨by simp, hc, hm, fun i hi => ⟨p, rfl, hA, ?_, ?_⟩⟩
  · have hlt : i < xs.length := by simpa using hi
    rw [getD_map_bc xs i hlt, Nat.mul_one]
    intro j v hv
    cases j with
    | zero =>
      simp [bc] at hv
      rw [Addr.add_zero', h i v (by simp [hlt, ← hv])]
    | succ j => simp [bc] at hv
  · have hlt : i < xs.length := by simpa using hi
    rw [getD_map_bc xs i hlt]; rfl
theorem Box.rdB {w : World} {B : Nat} {T : TypeId} {xs : List UInt8} (h : Box w B T (xs.map fun x => .int .u8 ((x.toNat : Nat) : Int))) (hm : xs.length ≤ maxLen) (A : List Nat) (hA : B ∉ A) : RdB A w ⟨some ⟨B, 0, none⟩, xs.length, xs.length⟩ xs :=
  RdB.of_cells h.cells (Nat.le_refl _) hm A hA

/-- Behind a slice nothing: it stays. -/
theorem append_none {P : Program} {w : World} {s x : Sl} {t ty T : TypeId} {z : Value} {size bytes : Nat} (ht : P.underlying t = some (.slice T)) (hi : TI P T z size bytes) (hc : s.n ≤ s.c) (hx : x.n = 0) :
    (Builtin.append_ #[t, t] ty #[s.v, x.v]).run P w = .ok s.v w := by
  obtain ⟨i, hi0, hz, hs, hb⟩ := hi
  have hf : (Builtin.firstCells i.size 0 x.v).run P w = .ok #[] w := by
    unfold Sl.v
    cases x.a <;> simp [Builtin.firstCells, loadCells, loadCellsFrom]
  have e : x.v = .slice x.a 0 x.c := by unfold Sl.v; rw [hx]
  rw [e] at hf ⊢
  unfold Sl.v
  cases hsa : s.a <;> simp [Builtin.append_, run_underlying ht, Go.sizeOf, typeInfo, hi0, Builtin.lenOf, hc, hf, storeCells]

theorem strCells_bc (p : List UInt8) : Lib.strCells (Bs p) = (p.map bc).flatten := by
  rw [flatten_bc]; simp [Lib.strCells, Bs]

/-- A text's bytes put behind a slice. -/
theorem append_str {P : Program} {A : List Nat} {w : World} {s : Sl} {t u ty T : TypeId} {xs p : List UInt8} (ht : P.underlying t = some (.slice T)) (hu : P.underlying u = some .string) (hi : TI P T (.int .u8 0) 1 1)
    (h : AppB A w s T xs) (hA : ∀ b ∈ A, b < w.heap.size) (hp : p ≠ []) (h63 : s.n + p.length ≤ maxLen) (hbytes : s.n + p.length ≤ 140737488355328) :
    ∃ s' w', (Builtin.append_ #[t, u] ty #[s.v, .string (Bs p)]).run P w = .ok (Sl.v s') w' ∧ OwnB A w' s' T (xs ++ p) ∧ Chg (s.own.filter fun b => !A.contains b) w w' ∧ (∀ b ∈ s'.blk, b ∈ s.own ∨ w.heap.size ≤ b) := by
  obtain ⟨i, hi0, hz, hs, hb⟩ := hi
  have hr : Row A w s 1 (xs.map bc) := App.row h
  have hpl : 0 < p.length := by cases p <;> simp_all
  have hsz : (Bs p).size = p.length := Bs_size p
  have hsmall : s.n + p.length ≤ 9223372036854775807 := by simp only [maxLen] at h63; omega
  have hvl : s.n = xs.length := by have := hr.len; simpa using this
  have hvf : (xs.map bc).flatten.length = s.n := by rw [flatten_bc]; simp [hvl]
  have hpf : (p.map bc).flatten.length = p.length := by rw [flatten_bc]; simp
  have grown : ∀ (old : Nat), old < s.n + p.length →
      OwnB A (w.drew.alloc (.cells ((xs.map bc).flatten.toArray ++ (Lib.strCells (Bs p)).toArray ++ Builtin.zeroCells (Value.cells (.int .u8 0)) (grownCap w (s.n + p.length) old T - (s.n + p.length))) T))
        ⟨some ⟨w.heap.size, 0, none⟩, s.n + p.length, grownCap w (s.n + p.length) old T⟩ T (xs ++ p) := by
    intro old ho
    have hge := grownCap_ge w (s.n + p.length) old T
    have hcm : grownCap w (s.n + p.length) old T ≤ maxLen := grownCap_le_maxLen w (s.n + p.length) old T h63
    refine ⟨by simp [hvl], hge, hcm, each_bc _, .inr ⟨w.heap.size, (xs.map bc).flatten ++ (p.map bc).flatten ++ (Builtin.zeroCells (Value.cells (.int .u8 0)) (grownCap w (s.n + p.length) old T - (s.n + p.length))).toList, rfl, fun hm => by have := hA _ hm; omega, ?_, ?_, ?_⟩⟩
    · unfold Box
      rw [strCells_bc]
      have := heap_alloc_new w.drew (.cells ((xs.map bc).flatten.toArray ++ (p.map bc).flatten.toArray ++ Builtin.zeroCells (Value.cells (.int .u8 0)) (grownCap w (s.n + p.length) old T - (s.n + p.length))) T)
      rw [show w.drew.heap.size = w.heap.size from rfl] at this
      rw [this]
      simp
    · simp only [List.length_append, Array.length_toList, size_zeroCells, hvf, hpf]
      simp [Value.cells]; omega
    · show ((xs.map bc).flatten ++ (p.map bc).flatten ++ _).take ((s.n + p.length) * 1) = _
      rw [Nat.mul_one, List.map_append, List.flatten_append]
      conv => lhs; rw [← hvf]
      rw [← hpf, ← List.length_append, List.take_left]
  have growC : ∀ o, Chg (s.own.filter fun b => !A.contains b) w (w.drew.alloc o) := fun o => Chg.ext (((Chg.refl [] w).drew).trans (Ext.alloc _ _))
  by_cases hcap : s.n + p.length ≤ s.c
  · have hown' : s.own = s.blk := by unfold Sl.own; rw [if_neg (by omega)]
    have hown : Own A w s 1 T (xs.map bc) := by
      rcases h with h | ⟨h, _⟩
      · exact h
      · omega
    rcases hown.at_ with e | ⟨g, cur, e1, e2, e3, e4, e5⟩
    · have e1 : s.n = 0 := by rw [e]
      have e2 : s.c = 0 := by rw [e]
      omega
    · have hg : w.heap[g]? = some (.cells cur.toArray T (0, 0)) := e3
      rw [Nat.mul_one] at e4 e5
      have hrun := Lib.run_append_room_string (P := P) w t u ty T i ht hu hi0 hs g s.n s.c cur.toArray hg (Bs p) (by rw [hsz]; exact hcap) (by rw [hsz]; simp; omega)
      rw [hsz, strCells_bc] at hrun
      refine ⟨⟨some ⟨g, 0, none⟩, s.n + p.length, s.c⟩, w.setRow g ((cur.toArray.toList.take s.n ++ (p.map bc).flatten ++ cur.toArray.toList.drop (s.n + p.length)).toArray), ?_, ?_, (setRow_chg w g _).mono (by rw [hown']; simp [Sl.blk, e1, e2]), by rw [hown']; simp [Sl.blk, e1]⟩
      · unfold Sl.v; rw [e1]; exact hrun
      · refine ⟨by simp [hvl], hcap, hown.most, each_bc _, .inr ⟨g, cur.take s.n ++ (p.map bc).flatten ++ cur.drop (s.n + p.length), rfl, e2, ?_, ?_, ?_⟩⟩
        · unfold Box; exact setRow_heap w g cur.toArray _ T _ hg
        · simp only [List.length_append, List.length_take, List.length_drop, hpf, Nat.mul_one]
          omega
        · show List.take ((s.n + p.length) * 1) _ = _
          rw [e5, List.map_append, List.flatten_append, Nat.mul_one]
          conv => lhs; rw [← hvf]
          rw [← hpf, ← List.length_append, List.take_left]
  · cases hsa : s.a with
    | none =>
      have hn0 : s.n = 0 := by
        cases hv : xs with
        | nil => rw [hvl, hv]; rfl
        | cons v0 vr => obtain ⟨q, hq, _⟩ := hr.at_ 0 (by rw [hv]; simp); rw [hsa] at hq; cases hq
      have hv0 : xs = [] := List.eq_nil_of_length_eq_zero (by omega)
      have hc0 : s.c = 0 := by
        rcases h with h | ⟨h, _⟩
        · rcases h.at_ with e | ⟨g, cur, e1, _⟩
          · rw [e]
          · rw [hsa] at e1; cases e1
        · omega
      have hrun := run_append_nil_string (P := P) w t u ty T i (.int .u8 0) ht hu hi0 hz (Bs p) (by rw [hsz]; exact hpl) (by rw [hsz]; omega) (by rw [hsz, hb]; omega)
      have hg := grown 0 (by omega)
      have e : ((Bs p).data.map fun b => Value.int .u8 b.toNat) = (Lib.strCells (Bs p)).toArray := by
        rw [strCells_bc, flatten_bc]; simp [Bs]
      rw [e, hsz] at hrun
      rw [hn0, hv0] at hg
      simp only [Nat.zero_add, List.map_nil, List.flatten_nil, Array.empty_append, List.nil_append] at hg
      refine ⟨_, _, ?_, by rw [hv0, List.nil_append]; exact hg, growC _, by simp [Sl.blk]⟩
      unfold Sl.v; rw [hsa, hn0, hc0]
      exact hrun
    | some q =>
      have hflat := hr.flat hsa
      rw [Nat.mul_one] at hflat
      have hrun := Lib.run_append_grow_string (P := P) w t u ty T i (.int .u8 0) ht hu hi0 hz q s.n s.c (xs.map bc).flatten (by rw [hvf, hs, Nat.mul_one]) hflat.2 (Bs p) (by rw [hsz]; omega) (by rw [hsz]; omega) (growslice_fits (by rw [hsz]; omega) (by rw [hsz, hb]; omega))
      rw [hsz] at hrun
      refine ⟨_, _, ?_, grown s.c (by omega), growC _, by simp [Sl.blk]⟩
      unfold Sl.v; rw [hsa]
      exact hrun

end Go.Proofs.Yteohbfaechfliaa
