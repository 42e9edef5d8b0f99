/-
  slots.Of: the slots of all nodes.
-/
import Derived.Test.YteohbfaechfliaaSltB
import Derived.Laws.MakeOwn
namespace Go.Proofs.Yteohbfaechfliaa
open Go.RowKit Go.MapKept

theorem made_list (cs : Array Value) : ∀ n : Nat, (madeCells cs (n * cs.size)).toList = (List.replicate n cs.toList).flatten := by
  intro n
  apply List.ext_getElem
  · simp [madeCells, List.length_flatten]
  · intro i h1 h2
    have hs : 0 < cs.size := by
      simp [madeCells] at h1
      rcases Nat.eq_zero_or_pos cs.size with h | h
      · rw [h] at h1; omega
      · exact h
    have hm : i % cs.size < cs.size := Nat.mod_lt _ hs
    have hg := flatten_group (size := cs.size) (List.replicate n cs.toList) (fun u hu => by rw [(List.mem_replicate.1 hu).2]; simp) (i / cs.size) (by
      simp [madeCells] at h1 ⊢
      exact Nat.div_lt_of_lt_mul (by rwa [Nat.mul_comm] at h1))
    have hget : (List.replicate n cs.toList).getD (i / cs.size) [] = cs.toList := by
      have : i / cs.size < n := by
        simp [madeCells] at h1
        exact Nat.div_lt_of_lt_mul (by rwa [Nat.mul_comm] at h1)
      simp [List.getD_eq_getElem?_getD, List.getElem?_replicate, this]
    rw [hget] at hg
    have h3 := congrArg (fun l => l[i % cs.size]?) hg
    simp only [List.getElem?_take, List.getElem?_drop, if_pos hm] at h3
    rw [show i / cs.size * cs.size + i % cs.size = i by rw [Nat.mul_comm]; exact Nat.div_add_mod _ _, List.getElem?_eq_getElem h2, List.getElem?_eq_getElem (by simpa using hm)] at h3
    rw [Option.some.inj h3]
    simp [madeCells, hm]

theorem makeSlice_own {P : Program} {w : World} {A bx : List Nat} {t T : TypeId} {z : Value} {size bytes n : Nat} {K : Value → World → Prop} (ht : P.underlying t = some (.slice T)) (hi : TI P T z size bytes) (hzs : z.cells.size = size) (hn : n ≤ 1000000000) (hb : bytes * n ≤ 140737488355328) (hA : ∀ b ∈ A, b < w.heap.size)
    (k : ∀ w', Own A w' ⟨some ⟨w.heap.size, 0, none⟩, n, n⟩ size T (List.replicate n z.cells.toList) → Ext w w' → K (Sl.mk (some ⟨w.heap.size, 0, none⟩) n n).v w') :
    RunK P (Instr.makeSlice t (.int .i64 (n : Int)) (.int .i64 (n : Int))) w bx K := by
  obtain ⟨i, h1, h2, h3, h4⟩ := hi
  subst h3 h4
  have hb' : (i.bytes : Int) * (n : Int) ≤ 281474976710656 := by
    have h : ((i.bytes * n : Nat) : Int) ≤ 281474976710656 := by omega
    rwa [Int.natCast_mul] at h
  have hr := run_make (P := P) w t T i z ht h1 h2 .i64 .i64 (n : Int) (n : Int) (by omega) (by omega) hb' (by omega)
  simp only [Int.toNat_natCast] at hr
  have hE : Ext w (w.alloc (.cells (madeCells z.cells (n * i.size)) T)) := Ext.alloc _ _
  refine ⟨_, _, hr, hE.noTouch _, hE.size, k _ ⟨by simp, Nat.le_refl _, by simp [maxLen]; omega, fun u hu => ?_, .inr ⟨w.heap.size, (madeCells z.cells (n * i.size)).toList, rfl, fun hm => by have := hA _ hm; omega, ?_, ?_, ?_⟩⟩ hE⟩
  · rw [(List.mem_replicate.1 hu).2]; simpa using hzs
  · unfold Box; rw [heap_alloc_new]
  · simp [madeCells]
  · have := made_list z.cells n
    rw [hzs] at this
    rw [this, List.take_of_length_le]
    simp [List.length_flatten, hzs]

theorem Cells.drop {w : World} {p : Addr} {cs : List Value} (h : Cells w p cs) (n : Nat) : Cells w (p.add n) (cs.drop n) := fun j v hv => by
  rw [List.getElem?_drop] at hv
  rw [Addr.add_add]; exact h _ _ hv

structure SV where
  gone : Bool
  text : Bool
  set : List (Str × Str)
  unset : List Str
  up : Int
  kids : List Int
def slc (v : SV) (se un ki : Sl) : List Value := [.bool v.gone, .bool v.text, se.v, un.v, .int .i64 v.up, ki.v]
def sv0 : SV := ⟨false, false, [], [], 0, []⟩
def SlotAt (w : World) (v : SV) (row : List Value) : Prop := ∃ se un ki : Sl, row = slc v se un ki ∧ Own [] w se 2 47 (v.set.map ac) ∧ Own [] w un 1 9 (v.unset.map wc) ∧ Own [] w ki 1 3 (v.kids.map zc)
/-- Slots stand there. -/
def Slots (A : List Nat) (w : World) (s : Sl) (vs : List SV) : Prop := ∃ rows : List (List Value), Own A w s 6 43 rows ∧ rows.length = vs.length ∧ ∀ (i : Nat) (v : SV) (row : List Value), vs[i]? = some v → rows[i]? = some row → SlotAt w v row
theorem SlotAt.ext {w w' : World} {v : SV} {row : List Value} (h : SlotAt w v row) (c : Ext w w') : SlotAt w' v row := by
  obtain ⟨se, un, ki, h1, h2, h3, h4⟩ := h
  exact ⟨se, un, ki, h1, h2.ext c, h3.ext c, h4.ext c⟩
theorem Slots.ext {A : List Nat} {w w' : World} {s : Sl} {vs : List SV} (h : Slots A w s vs) (c : Ext w w') : Slots A w' s vs := by
  obtain ⟨rows, h1, h2, h3⟩ := h
  exact ⟨rows, h1.ext c, h2, fun i v row hv hr => (h3 i v row hv hr).ext c⟩
theorem Slots.len {A : List Nat} {w : World} {s : Sl} {vs : List SV} (h : Slots A w s vs) : s.n = vs.length := by
  obtain ⟨rows, h1, h2, h3⟩ := h
  rw [h1.len, h2]
theorem Slots.at {A : List Nat} {w : World} {s : Sl} {vs : List SV} (h : Slots A w s vs) {i : Nat} (hi : i < vs.length) : ∃ (p : Addr) (se un ki : Sl), s.a = some p ∧ Cells w (p.add (i * 6)) (slc (vs.getD i sv0) se un ki) ∧ Own [] w se 2 47 ((vs.getD i sv0).set.map ac) ∧ Own [] w un 1 9 ((vs.getD i sv0).unset.map wc) ∧ Own [] w ki 1 3 ((vs.getD i sv0).kids.map zc) := by
  obtain ⟨rows, h1, h2, h3⟩ := h
  obtain ⟨p, hp, _, hc, _⟩ := h1.row.at_ i (by omega)
  have hr : rows[i]? = some (rows.getD i []) := by rw [List.getD_eq_getElem?_getD, List.getElem?_eq_getElem (by omega)]; rfl
  have hv : vs[i]? = some (vs.getD i sv0) := by rw [List.getD_eq_getElem?_getD, List.getElem?_eq_getElem hi]; rfl
  obtain ⟨se, un, ki, e, h4, h5, h6⟩ := h3 i _ _ hv hr
  rw [e] at hc
  exact ⟨p, se, un, ki, hp, hc, h4, h5, h6⟩

/-! ### What pairs say -/
def toF : List (Int × Int) → Int → Option Int
  | [], _ => none
  | p :: r, i => match toF r i with
    | some j => some j
    | none => if p.1 = i then some p.2 else none
theorem toF_snoc (l : List (Int × Int)) (q : Int × Int) (i : Int) : toF (l ++ [q]) i = if i = q.1 then some q.2 else toF l i := by
  induction l with
  | nil =>
    simp only [List.nil_append, toF]
    by_cases h : i = q.1
    · rw [if_pos h, if_pos h.symm]
    · rw [if_neg h, if_neg (fun e => h e.symm)]
  | cons p r ih =>
    rw [List.cons_append, toF, ih]
    by_cases h : i = q.1
    · rw [if_pos h, if_pos h]
    · rw [if_neg h, if_neg h]; rfl
theorem toF_mem : ∀ {l : List (Int × Int)} {i j : Int}, toF l i = some j → (i, j) ∈ l
  | p :: r, i, j, h => by
    rw [toF] at h
    split at h
    · rename_i x hx
      cases h
      exact List.mem_cons_of_mem _ (toF_mem hx)
    · split at h
      · rename_i hp
        cases h; subst hp
        exact List.mem_cons_self ..
      · cases h
def swapP (p : Int × Int) : Int × Int := (p.2, p.1)
/-- A node's number: its partner's, or one of a new one. -/
def num (ps : List (Int × Int)) (k : Int) : Int := match toF (ps.map swapP) k with
  | some i => i
  | none => -2 - k
theorem chkL_vals {x y : T} : ∀ {ps : List (Int × Int)} {last : Int} {seen : List Int}, chkL x y last ps seen = true → ∀ p ∈ ps, last < p.1 ∧ p.1 < x.size ∧ 0 ≤ p.2 ∧ p.2 < y.size
  | p :: r, last, seen, h, q, hq => by
    rw [chkL] at h
    simp only [Bool.and_eq_true, decide_eq_true_eq] at h
    rcases List.mem_cons.1 hq with rfl | hq
    · exact ⟨h.1.1.1.1.1.1, h.1.1.1.1.1.2, h.1.1.1.1.2, h.1.1.1.2⟩
    · have := chkL_vals h.2 q hq
      exact ⟨by have := h.1.1.1.1.1.1; omega, this.2⟩
theorem chkP_vals {x y : T} {ps : List (Int × Int)} (h : chkP x y ps = true) : ∀ p ∈ ps, 0 ≤ p.1 ∧ p.1 < x.size ∧ 0 ≤ p.2 ∧ p.2 < y.size := fun p hp => by
  unfold chkP at h
  simp only [Bool.and_eq_true] at h
  have := chkL_vals h.2 p hp
  omega
/-- What was changed of the node of a number. -/
def slotOf (o x : T) (ps : List (Int × Int)) (i : Nat) : SV := match toF ps i with
  | none => ⟨true, false, [], [], 0, []⟩
  | some j => ⟨false, decide ((o.nd i).t.text ≠ (x.nd j.toNat).t.text), setOf (o.nd i).t.attrs (x.nd j.toNat).t.attrs, unsetOf (o.nd i).t.attrs (x.nd j.toNat).t.attrs, if 0 ≤ (x.nd j.toNat).par then num ps (x.nd j.toNat).par else -1, (x.kidsAt j.toNat).map fun k : Nat => num ps (k : Int)⟩
def slotsOf (o x : T) (ps : List (Int × Int)) : List SV := (List.range o.size).map (slotOf o x ps)

theorem slotsNum {w : World} {B M : Nat} {m : List (Int × Value)} {ps : List (Int × Int)} (hB : w.cell? ⟨B, 0, none⟩ = some (.map (some M))) (hM : MapIs intV (.int .i64) w M m) (hm : ∀ k, mget m k = (toF (ps.map swapP) k).map intV) {k : Int} (h0 : 0 ≤ k) (h1 : k ≤ 1000000000) :
    Calls Try.prog 38 #[.int .i64 k, .pointer (some ⟨B, 0, none⟩)] w (Ret fun v w' => Ext w w' ∧ v = .int .i64 (num ps k)) := by
  refine slots_Of_1.ok _ _ ?_
  unfold slots_Of_1.vc
  have hl := (lookup_run keyInt intV_inj Try.underlying81 Try.underlying3 (tiInt.zeroValue w) hM k).1
  rw [hm] at hl
  unfold num
  cases ht : toF (ps.map swapP) k with
  | none =>
    rw [ht] at hl
    exact ⟨some M, hB, 0, false, hl, fun h => (by cases h), fun _ => ⟨⟨by omega, by omega⟩, Chg.refl _ _, rfl⟩⟩
  | some i =>
    rw [ht] at hl
    exact ⟨some M, hB, i, true, hl, fun _ => ⟨Chg.refl _ _, rfl⟩, fun h => by cases h⟩

end Go.Proofs.Yteohbfaechfliaa
