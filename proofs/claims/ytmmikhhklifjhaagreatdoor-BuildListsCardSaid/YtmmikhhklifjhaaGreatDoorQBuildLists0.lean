/-
  What the proof of the statement leans on: texts one behind the other.
-/
import Derived.Test.YtmmikhhklifjhaaGreatDoorProg
import Derived.WalkKit
import Derived.Carry
import Derived.Lib.Hide
import Derived.Laws.Shifts
import Derived.Laws.Cells
import Derived.Orders
import Derived.Laws.StructEq
import Derived.Laws.Cover3
import Derived.Laws.Externs
import Derived.Lib.Bytealg
import Derived.Scope
import Derived.WalkSpells
import Derived.ChangeKeysEq
import Derived.Lib.LaidTab
import Derived.Lib.Space
namespace Go.Proofs.YtmmikhhklifjhaaGreatDoor
section
open Go.RowKit

/-- A text as a list of bytes. -/
abbrev Str := List UInt8

def Bs (s : Str) : ByteArray := ⟨s.toArray⟩

theorem Bs_size (s : Str) : (Bs s).size = s.length := by simp [Bs, ByteArray.size]

theorem Bs_data (s : Str) : (Bs s).data.toList = s := by simp [Bs]

/-- A slice value. -/
structure Sl where
  a : Option Addr
  n : Nat
  c : Nat

@[reducible] def Sl.v (s : Sl) : Value := .slice s.a s.n s.c
@[reducible] def Sl.nil : Sl := ⟨none, 0, 0⟩

/-! ### Worlds -/

/-- Of the blocks that were there none has changed but, perhaps, those of F. -/
structure Chg (F : List Nat) (w w' : World) : Prop where
  os : w'.os = w.os
  tape : w'.tape = w.tape
  output : w'.output = w.output
  size : w.heap.size ≤ w'.heap.size
  block : ∀ k, k < w.heap.size → k ∉ F → w'.heap[k]? = w.heap[k]?

abbrev Ext (w w' : World) : Prop := Chg [] w w'

theorem Chg.refl (F : List Nat) (w : World) : Chg F w w := ⟨rfl, rfl, rfl, Nat.le_refl _, fun _ _ _ => rfl⟩

theorem Chg.trans {F : List Nat} {a b c : World} (h : Chg F a b) (k : Chg F b c) : Chg F a c :=
  ⟨k.os.trans h.os, k.tape.trans h.tape, k.output.trans h.output, Nat.le_trans h.size k.size,
    fun i hi hF => (k.block i (Nat.lt_of_lt_of_le hi h.size) hF).trans (h.block i hi hF)⟩

theorem Chg.mono {F G : List Nat} {a b : World} (h : Chg F a b) (hs : ∀ x ∈ F, x ∈ G) : Chg G a b :=
  ⟨h.os, h.tape, h.output, h.size, fun i hi hG => h.block i hi fun hF => hG (hs i hF)⟩

theorem Chg.ext {F : List Nat} {a b : World} (h : Ext a b) : Chg F a b := h.mono (by simp)

theorem Ext.below {w w' : World} (h : Ext w w') : Below w.heap.size w w' := ⟨h.os, h.tape, h.output, h.size, fun k hk => h.block k hk (by simp)⟩

theorem Chg.cell {F : List Nat} {w w' : World} (h : Chg F w w') {p : Addr} {v : Value} (hc : w.cell? p = some v) (hF : p.block ∉ F) : w'.cell? p = some v := by
  have hb := World.block_lt_of_cell? w p hc
  rw [World.cell?_of_block (w := w) (h.block p.block hb hF)]; exact hc

theorem Ext.cell {w w' : World} (h : Ext w w') {p : Addr} {v : Value} (hc : w.cell? p = some v) : w'.cell? p = some v := Chg.cell h hc (by simp)

theorem Chg.drew {F : List Nat} {a w : World} (h : Chg F a w) : Chg F a w.drew := ⟨h.os, h.tape, h.output, h.size, h.block⟩

theorem Chg.drawn {F : List Nat} {a w : World} (h : Chg F a w) (n : Nat) : Chg F a { w with drawn := n } := ⟨h.os, h.tape, h.output, h.size, h.block⟩

theorem Ext.alloc (w : World) (o : Obj) : Ext w (w.alloc o) := ⟨rfl, rfl, rfl, by simp, fun k hk _ => Below.heap_alloc _ _ _ hk⟩

theorem Chg.setCell (w : World) (p : Addr) (u : Value) : Chg [p.block] w (w.setCell p u) :=
  ⟨rfl, rfl, rfl, by simp [World.setCell], fun k _ hF => Below.heap_setCell _ _ _ _ (by simpa using hF)⟩

/-- A block that is new. -/
structure New (w : World) (B : Nat) (w' : World) : Prop where
  ge : w.heap.size ≤ B
  lt : B < w'.heap.size

/-- Block B holds just these cells of type T, none of them frozen. -/
def Box (w : World) (B : Nat) (T : TypeId) (cs : List Value) : Prop := w.heap[B]? = some (.cells cs.toArray T (0, 0))

theorem Box.lt {w : World} {B : Nat} {T : TypeId} {cs : List Value} (h : Box w B T cs) : B < w.heap.size := (Array.getElem?_eq_some_iff.1 h).1

theorem Box.keep {F : List Nat} {w w' : World} {B : Nat} {T : TypeId} {cs : List Value} (h : Box w B T cs) (c : Chg F w w') (hF : B ∉ F) : Box w' B T cs := (c.block B h.lt hF).trans h

theorem Box.ext {w w' : World} {B : Nat} {T : TypeId} {cs : List Value} (h : Box w B T cs) (c : Ext w w') : Box w' B T cs := h.keep c (by simp)

theorem Box.cell {w : World} {B : Nat} {T : TypeId} {cs : List Value} (h : Box w B T cs) (i : Nat) (v : Value) (hv : cs[i]? = some v) : w.cell? ⟨B, i, none⟩ = some v := by
  unfold Box at h; simp [World.cell?, h, hv]

theorem Box.free {w : World} {B : Nat} {T : TypeId} {cs : List Value} (h : Box w B T cs) (i : Nat) : w.frozen? ⟨B, i, none⟩ = false := by
  unfold Box at h
  simp only [World.frozen?, h, Nat.zero_le, decide_true, Bool.true_and]
  simp

theorem Box.alloc (w : World) (T : TypeId) (cs : List Value) : Box (w.alloc (.cells cs.toArray T (0, 0))) w.heap.size T cs := by
  unfold Box; exact heap_alloc_new w _

theorem Box.setCell {w : World} {B : Nat} {T : TypeId} {cs : List Value} (h : Box w B T cs) (i : Nat) (v : Value) : Box (w.setCell ⟨B, i, none⟩ v) B T (cs.set i v) := by
  unfold Box at *
  simp [World.setCell, Array.getElem?_modify, h]

def lookupL (t : Nat) : List (Nat × Value) → Option Value
  | [] => none
  | (d, v) :: L => bif Nat.beq t d then some v else lookupL t L

/-- A frame of n slots, nothing deferred, with these values in these slots. -/
structure Ag (n : Nat) (a : Act) (L : List (Nat × Value)) : Prop where
  size : a.tmps.size = n
  defs : a.defers = []
  val : ∀ t v, lookupL t L = some v → a.tmps.getD t undef = v

theorem Ag.get {n : Nat} {a : Act} {L : List (Nat × Value)} (h : Ag n a L) {t : Nat} {v : Value} (hv : lookupL t L = some v) : a.eval (.tmp t) = v := h.val t v hv

theorem getD_setIfInBounds_self (xs : Array Value) (d : Nat) (v u : Value) (h : d < xs.size) : (xs.setIfInBounds d v).getD d u = v := by
  simp [Array.getD, h, Array.size_setIfInBounds]

theorem getD_setIfInBounds_ne (xs : Array Value) (d t : Nat) (v u : Value) (h : d ≠ t) : (xs.setIfInBounds d v).getD t u = xs.getD t u := by
  simp [Array.getD_eq_getD_getElem?, Array.getElem?_setIfInBounds_ne h]

theorem Ag.put {n : Nat} {a : Act} {L : List (Nat × Value)} (h : Ag n a L) {d : Nat} (hd : Nat.blt d n = true) (v : Value) : Ag n (a.put (some d) v) ((d, v) :: L) := by
  have hlt : d < n := by simpa [Nat.blt_eq] using hd
  refine ⟨by simp [Act.put, h.size], h.defs, fun t u hu => ?_⟩
  show (a.tmps.setIfInBounds d v).getD t undef = u
  simp only [lookupL] at hu
  by_cases e : t = d
  · subst e
    have hb : Nat.beq t t = true := Nat.beq_refl t
    rw [hb] at hu
    simp at hu
    rw [getD_setIfInBounds_self _ _ _ _ (by rw [h.size]; exact hlt)]
    exact hu
  · have hb : Nat.beq t d = false := by
      cases hh : Nat.beq t d
      · rfl
      · exact absurd (Nat.eq_of_beq_eq_true hh) e
    rw [hb] at hu
    simp at hu
    rw [getD_setIfInBounds_ne _ _ _ _ _ (fun h => e h.symm)]
    exact h.val t u hu

/-- What is known at the slots of L' is known of L. -/
def SubL (L : List (Nat × Value)) : List (Nat × Value) → Prop
  | [] => True
  | (d, v) :: L' => lookupL d L = some v ∧ SubL L L'

theorem SubL.look {L : List (Nat × Value)} : ∀ {L' : List (Nat × Value)}, SubL L L' → ∀ t v, lookupL t L' = some v → lookupL t L = some v
  | [], _, t, v, h => by simp [lookupL] at h
  | (d, u) :: L', ⟨h1, h2⟩, t, v, h => by
    simp only [lookupL] at h
    cases hb : Nat.beq t d
    · rw [hb] at h; exact h2.look t v (by simpa using h)
    · rw [hb] at h
      have e : t = d := Nat.eq_of_beq_eq_true hb
      subst e
      rw [h1]; simpa using h

theorem Ag.keep {n : Nat} {a : Act} {L : List (Nat × Value)} (h : Ag n a L) (L' : List (Nat × Value)) (hs : SubL L L') : Ag n a L' :=
  ⟨h.size, h.defs, fun t v hv => h.val t v (hs.look t v hv)⟩

def enterL : Nat → List Value → List (Nat × Value)
  | _, [] => []
  | i, v :: vs => (i, v) :: enterL (i + 1) vs

theorem lookup_enterL (vs : List Value) : ∀ i t v, lookupL t (enterL i vs) = some v → i ≤ t ∧ vs[t - i]? = some v := by
  induction vs with
  | nil => intro i t v h; simp [enterL, lookupL] at h
  | cons u vs ih =>
    intro i t v h
    simp only [enterL, lookupL] at h
    cases hb : Nat.beq t i
    · rw [hb] at h
      obtain ⟨h1, h2⟩ := ih (i + 1) t v (by simpa using h)
      refine ⟨by omega, ?_⟩
      rw [show t - i = (t - (i + 1)) + 1 by omega]
      simpa using h2
    · rw [hb] at h
      have e : t = i := Nat.eq_of_beq_eq_true hb
      subst e
      simp at h
      simp [h]

theorem Ag.enter (vs : List Value) (n : Nat) (hn : Nat.ble vs.length n = true) : Ag n { tmps := vs.toArray ++ Array.replicate (n - vs.toArray.size) undef, defers := [] } (enterL 0 vs) := by
  have hle : vs.length ≤ n := by simpa using hn
  refine ⟨by simp; omega, rfl, fun t v hv => ?_⟩
  obtain ⟨_, h2⟩ := lookup_enterL vs 0 t v hv
  simp only [Nat.sub_zero] at h2
  have hlt : t < vs.length := (List.getElem?_eq_some_iff.1 h2).1
  have e : vs[t] = v := by rw [List.getElem?_eq_getElem hlt] at h2; simpa using h2
  simp [Array.getD_eq_getD_getElem?, Array.getElem?_append, hlt, e]

/-- It returns, and R holds of what it returns and of the world. -/
def Ret (R : Value → World → Prop) : Ending → World → Prop
  | .returned v, w => R v w
  | _, _ => False

theorem Ret.mono {P : Program} {f : FuncId} {args : Array Value} {w : World} {R R' : Value → World → Prop} (h : Calls P f args w (Ret R)) (hr : ∀ v w', R v w' → R' v w') : Calls P f args w (Ret R') :=
  h.mono fun e w' he => by cases e <;> first | exact hr _ _ he | exact he

/-- In all the blocks of bx nothing has changed. -/
def NoTouch (bx : List Nat) (w w' : World) : Prop := ∀ b ∈ bx, b < w.heap.size → w'.heap[b]? = w.heap[b]?

theorem Chg.noTouch {F : List Nat} {w w' : World} (h : Chg F w w') (bx : List Nat) (hd : ∀ b ∈ bx, b ∉ F) : NoTouch bx w w' := fun b hb hlt => h.block b hlt (hd b hb)

theorem Ext.noTouch {w w' : World} (h : Ext w w') (bx : List Nat) : NoTouch bx w w' := Chg.noTouch h bx (by simp)

/-- A call: what it returns, and the world then. The blocks bx are the caller's own. -/
def CallK (P : Program) (f : FuncId) (args : Array Value) (w : World) (bx : List Nat) (K : Value → World → Prop) : Prop :=
  Calls P f args w (Ret fun v w' => NoTouch bx w w' ∧ w.heap.size ≤ w'.heap.size ∧ K v w')

theorem CallK.ext {P : Program} {f : FuncId} {args : Array Value} {w : World} {bx : List Nat} {R K : Value → World → Prop}
    (h : Calls P f args w (Ret fun v w' => Ext w w' ∧ R v w')) (k : ∀ v w', Ext w w' → R v w' → K v w') : CallK P f args w bx K :=
  Ret.mono h fun v w' ⟨he, hr⟩ => ⟨he.noTouch bx, he.size, k v w' he hr⟩

theorem CallK.exact {P : Program} {f : FuncId} {args : Array Value} {w : World} {bx : List Nat} {v0 : Value} {K : Value → World → Prop}
    (h : Calls P f args w (Ret fun v w' => Ext w w' ∧ v = v0)) (k : ∀ w', Ext w w' → K v0 w') : CallK P f args w bx K :=
  CallK.ext h fun _ w' he hv => hv ▸ k w' he

theorem CallK.chg {P : Program} {f : FuncId} {args : Array Value} {w : World} {bx F : List Nat} {R K : Value → World → Prop}
    (h : Calls P f args w (Ret fun v w' => Chg F w w' ∧ R v w')) (hd : ∀ b ∈ bx, b ∉ F) (k : ∀ v w', Chg F w w' → R v w' → K v w') : CallK P f args w bx K :=
  Ret.mono h fun v w' ⟨he, hr⟩ => ⟨he.noTouch bx hd, he.size, k v w' he hr⟩

section code

variable {P : Program} {Q : Exit → Act → World → Prop} {a : Act} {w : World}

theorem then_normal {K : Act → World → Prop} (h : K a w) : Exit.then K Q .normal a w := h

theorem then_exit {K : Act → World → Prop} {i : Nat} (h : Q (.exit i) a w) : Exit.then K Q (.exit i) a w := h

theorem then_ret {K : Act → World → Prop} (h : Q .ret a w) : Exit.then K Q .ret a w := h

theorem block_normal {id : Nat} (h : Q .normal a w) : Exit.inBlock id Q .normal a w := h

theorem block_hit {id : Nat} (h : Q .normal a w) : Exit.inBlock id Q (.exit id) a w := by simpa [Exit.inBlock] using h

theorem block_miss {id i : Nat} (hne : Nat.beq i id = false) (h : Q (.exit i) a w) : Exit.inBlock id Q (.exit i) a w := by
  have : ¬ i = id := fun e => by subst e; simp at hne
  simpa [Exit.inBlock, this] using h

theorem block_ret {id : Nat} (h : Q .ret a w) : Exit.inBlock id Q .ret a w := h

/-- A loop, by a relation with a state beside the frame, and a measure of that state. -/
theorem wp_loop_st {c : Code} {σ : Type} (I : σ → Act → World → Prop) (μ : σ → Nat) (s₀ : σ) (h₀ : I s₀ a w)
    (round : ∀ s a w, I s a w → c.wp P (Exit.then (fun a' w' => ∃ s', I s' a' w' ∧ μ s' < μ s) Q) a w) : (Code.loop c).wp P Q a w := by
  classical
  have hex : ∀ a w, (∃ s, I s a w) → ∃ n, ∃ s, I s a w ∧ μ s = n := fun a w ⟨s, hs⟩ => ⟨μ s, s, hs, rfl⟩
  have hleast : ∀ a w, (∃ s, I s a w) → ∃ s, I s a w ∧ ∀ s', I s' a w → μ s ≤ μ s' := by
    intro a w hs
    have key : ∀ n, ∀ s, I s a w → μ s = n → ∃ s, I s a w ∧ ∀ s', I s' a w → μ s ≤ μ s' := by
      intro n
      induction n using Nat.strongRecOn with
      | _ n ih =>
        intro s hs hn
        by_cases hm : ∃ s', I s' a w ∧ μ s' < μ s
        · obtain ⟨s', h1, h2⟩ := hm
          exact ih (μ s') (hn ▸ h2) s' h1 rfl
        · exact ⟨s, hs, fun s' h' => Nat.le_of_not_lt fun hlt => hm ⟨s', h', hlt⟩⟩
    obtain ⟨s, h⟩ := hs
    exact key _ s h rfl
  let m : Act → World → Nat := fun a w => if h : ∃ s, I s a w then μ (hleast a w h).choose else 0
  have hm : ∀ a w s, I s a w → m a w ≤ μ s := by
    intro a w s hs
    have h : ∃ s, I s a w := ⟨s, hs⟩
    show (if h : ∃ s, I s a w then μ (hleast a w h).choose else 0) ≤ μ s
    rw [dif_pos h]
    exact (hleast a w h).choose_spec.2 s hs
  refine wp_loop (fun a w => ∃ s, I s a w) m ⟨s₀, h₀⟩ fun a w hI => ?_
  have hsp := (hleast a w hI).choose_spec
  have e : m a w = μ (hleast a w hI).choose := by
    show (if h : ∃ s, I s a w then μ (hleast a w h).choose else 0) = _
    rw [dif_pos hI]
  refine wp_mono (round _ a w hsp.1) fun x a' w' hq => ?_
  cases x with
  | normal =>
    obtain ⟨s', h1, h2⟩ := hq
    exact ⟨⟨s', h1⟩, by rw [e]; exact Nat.lt_of_le_of_lt (hm a' w' s' h1) h2⟩
  | _ => exact hq

end code

theorem res_tmp {P : Program} {fn : Func} {n : Nat} {a : Act} {L : List (Nat × Value)} {w : World} {t : Nat} {v : Value} {R : Value → World → Prop} (hr : fn.results = #[.tmp t]) (h : Ag n a L) (hv : lookupL t L = some v) (hR : R v w) :
    bodyPost P fn (Ret R) .ret a w :=
  ⟨h.defs, v, by rw [results_tmp hr, h.val t v hv], hR⟩

/-- A body that comes to its end. -/
theorem res_end {P : Program} {fn : Func} {R : Ending → World → Prop} {a : Act} {w : World} (h : bodyPost P fn R .ret a w) : bodyPost P fn R .normal a w := h
end

section
open Go.RowKit

/-- A value that is there where g holds. -/
def cV (g : Bool) (v : Value) : Value := bif g then v else undef

theorem cV_true (v : Value) : cV true v = v := rfl

/-- One operation, carried out or passed by, and what follows. -/
def opK (P : Program) (ops : Array Oper) (Q : Exit → Act → World → Prop) (o : Oper) (K : Act → World → Prop) (a : Act) (w : World) : Prop :=
  if Region.wanted o (yielded ops a.tmps) then o.wp P a w K Q else K (a.put o.dst undef) w

section

variable {P : Program} {ops : Array Oper} {Q : Exit → Act → World → Prop} {K : Act → World → Prop} {n : Nat} {a : Act} {w : World} {L : List (Nat × Value)}

/-- The operations of a region that keeps the text's order, one by one. -/
theorem sq {o : Oper} {rest : List Oper} (h : opK P ops Q o (wpList P ops Q rest) a w) : wpList P ops Q (o :: rest) a w := by
  unfold opK at h
  unfold wpList
  split
  · rename_i hw; rw [if_pos hw] at h; exact .inl h
  · rename_i hw; rw [if_neg hw] at h; exact h

theorem sq_end (h : Q .normal a w) : wpList P ops Q [] a w := h

theorem opK_mono {o : Oper} {K' : Act → World → Prop} (h : opK P ops Q o K a w) (hk : ∀ a w, K a w → K' a w) : opK P ops Q o K' a w := by
  unfold opK at *
  split
  · rename_i hw; rw [if_pos hw] at h; exact Oper.wp_mono hk h
  · rename_i hw; rw [if_neg hw] at h; exact hk _ _ h

theorem opk_val {d : Nat} {op : Op} {ty : TypeId} {pos : String} {after : Array Edge} {v : Value} {w' : World} (hA : Ag n a L) (hd : Nat.blt d n = true)
    (hrun : (execOp a.eval ⟨some d, op, ty, pos, after, none⟩).run P w = .ok (.value v) w')
    (k : ∀ a', Ag n a' ((d, v) :: L) → a' = a.put (some d) v → K a' w') : opK P ops Q ⟨some d, op, ty, pos, after, none⟩ K a w := by
  unfold opK
  simp only [Region.wanted, if_true, Oper.wp, hrun, Oper.upon]
  exact k _ (hA.put hd v) rfl

theorem yielded_of {j tj : Nat} {g e : Bool} (hA : Ag n a L) (hj : (ops[j]?).bind (·.dst) = some tj) (hl : lookupL tj L = some (cV g (.bool e))) : (yielded ops a.tmps j == some true) = (g && e) ∧ (yielded ops a.tmps j == some false) = (g && !e) := by
  have hv := hA.val tj _ hl
  have : yielded ops a.tmps j = bif g then some e else none := by
    unfold yielded
    rw [hj]
    cases g with
    | false =>
      simp only [cV, cond_false] at hv ⊢
      show (match a.tmps[tj]? with | some (.bool b) => some b | _ => none) = none
      cases ht : a.tmps[tj]? with
      | none => rfl
      | some x =>
        have hx : x = undef := by rw [Array.getD_eq_getD_getElem?, ht] at hv; simpa using hv
        subst hx; rfl
    | true =>
      simp only [cV, cond_true] at hv ⊢
      show (match a.tmps[tj]? with | some (.bool b) => some b | _ => none) = some e
      cases ht : a.tmps[tj]? with
      | none => rw [Array.getD_eq_getD_getElem?, ht] at hv; simp [undef] at hv
      | some x =>
        have hx : x = .bool e := by rw [Array.getD_eq_getD_getElem?, ht] at hv; simpa using hv
        subst hx; rfl
  rw [this]
  cases g <;> cases e <;> exact ⟨rfl, rfl⟩

theorem wanted_of {j tj : Nat} {want g e : Bool} {dst : Option Nat} {op : Op} {ty : TypeId} {pos : String} {after : Array Edge} (hA : Ag n a L) (hj : (ops[j]?).bind (·.dst) = some tj) (hl : lookupL tj L = some (cV g (.bool e))) :
    Region.wanted ⟨dst, op, ty, pos, after, some (j, want)⟩ (yielded ops a.tmps) = (g && (e == want)) := by
  obtain ⟨h1, h2⟩ := yielded_of hA hj hl
  simp only [Region.wanted]
  cases want
  · rw [h2]; cases e <;> rfl
  · rw [h1]; cases e <;> rfl

theorem upon_call {o : Oper} {f : FuncId} {args : Array Value} (hrun : (execOp a.eval o).run P w = .ok (.enter f args) w) {R : Value → World → Prop}
    (hc : Calls P f args w (Ret R)) (k : ∀ v w', R v w' → K (a.put o.dst v) w') : o.wp P a w K Q := by
  unfold Oper.wp
  rw [hrun]
  refine hc.mono fun e w' he => ?_
  cases e with
  | returned v => exact k v w' he
  | _ => exact he.elim

theorem opk_call {d : Nat} {op : Op} {ty : TypeId} {pos : String} {after : Array Edge} {f : FuncId} {args : Array Value} {bx : List Nat} {R : Value → World → Prop} (hA : Ag n a L) (hd : Nat.blt d n = true)
    (hrun : (execOp a.eval ⟨some d, op, ty, pos, after, none⟩).run P w = .ok (.enter f args) w) (hc : CallK P f args w bx R)
    (k : ∀ a' v w', Ag n a' ((d, v) :: L) → a' = a.put (some d) v → NoTouch bx w w' → w.heap.size ≤ w'.heap.size → R v w' → K a' w') : opK P ops Q ⟨some d, op, ty, pos, after, none⟩ K a w := by
  unfold opK
  simp only [Region.wanted, if_true]
  exact upon_call hrun hc fun v w' ⟨h1, h2, h3⟩ => k _ v w' (hA.put hd v) rfl h1 h2 h3

end

section runs

variable {P : Program} {ρ : Operand → Value} {w : World} {dst : Option Nat} {ty : TypeId} {pos : String} {after : Array Edge} {guard : Option (Nat × Bool)}

theorem r_move {x : Operand} {v : Value} (hx : ρ x = v) : (execOp ρ ⟨dst, .move x, ty, pos, after, guard⟩).run P w = .ok (.value v) w := by simp [execOp, hx]

theorem r_assign {x : Operand} {v : Value} (hx : ρ x = v) : (execOp ρ ⟨dst, .assign x, ty, pos, after, guard⟩).run P w = .ok (.value v) w := by simp [execOp, hx]

end runs

section runs

variable {P : Program} {a : Act} {w : World} {dst : Option Nat} {ty : TypeId} {pos : String} {after : Array Edge} {guard : Option (Nat × Bool)}

end runs

section runs

variable {P : Program} {ρ : Operand → Value} {w : World} {dst : Option Nat} {ty : TypeId} {pos : String} {after : Array Edge} {guard : Option (Nat × Bool)}

theorem r_add {t yt : TypeId} {x y : Operand} {k : IntKind} {p q : Int} (hx : ρ x = .int k p) (hy : ρ y = .int k q) :
    (execOp ρ ⟨dst, .binOp .add t x y yt, ty, pos, after, guard⟩).run P w = .ok (.value (.int k (k.wrap (p + q)))) w := by simp [execOp, hx, hy, go_sem, Op.intArith]

theorem r_sub {t yt : TypeId} {x y : Operand} {k : IntKind} {p q : Int} (hx : ρ x = .int k p) (hy : ρ y = .int k q) :
    (execOp ρ ⟨dst, .binOp .sub t x y yt, ty, pos, after, guard⟩).run P w = .ok (.value (.int k (k.wrap (p - q)))) w := by simp [execOp, hx, hy, go_sem, Op.intArith]

theorem r_mul {t yt : TypeId} {x y : Operand} {k : IntKind} {p q : Int} (hx : ρ x = .int k p) (hy : ρ y = .int k q) :
    (execOp ρ ⟨dst, .binOp .mul t x y yt, ty, pos, after, guard⟩).run P w = .ok (.value (.int k (k.wrap (p * q)))) w := by simp [execOp, hx, hy, go_sem, Op.intArith]

theorem r_quo {t yt : TypeId} {x y : Operand} {k : IntKind} {p q : Int} (hx : ρ x = .int k p) (hy : ρ y = .int k q) (h0 : q ≠ 0) :
    (execOp ρ ⟨dst, .binOp .quo t x y yt, ty, pos, after, guard⟩).run P w = .ok (.value (.int k (k.wrap (p.tdiv q)))) w := by simp [execOp, hx, hy, go_sem, Op.intDiv, h0]

theorem r_rem {t yt : TypeId} {x y : Operand} {k : IntKind} {p q : Int} (hx : ρ x = .int k p) (hy : ρ y = .int k q) (h0 : q ≠ 0) :
    (execOp ρ ⟨dst, .binOp .rem t x y yt, ty, pos, after, guard⟩).run P w = .ok (.value (.int k (p.tmod q))) w := by simp [execOp, hx, hy, go_sem, Op.intDiv, h0]

theorem r_and {t yt : TypeId} {x y : Operand} {k : IntKind} {p q : Int} (hx : ρ x = .int k p) (hy : ρ y = .int k q) :
    (execOp ρ ⟨dst, .binOp .and t x y yt, ty, pos, after, guard⟩).run P w = .ok (.value (.int k (bits .and k p q))) w := by simp [execOp, hx, hy, go_sem]

theorem r_bor {t yt : TypeId} {x y : Operand} {k : IntKind} {p q : Int} (hx : ρ x = .int k p) (hy : ρ y = .int k q) :
    (execOp ρ ⟨dst, .binOp .or t x y yt, ty, pos, after, guard⟩).run P w = .ok (.value (.int k (bits .or k p q))) w := by simp [execOp, hx, hy, go_sem]

theorem r_xor {t yt : TypeId} {x y : Operand} {k : IntKind} {p q : Int} (hx : ρ x = .int k p) (hy : ρ y = .int k q) :
    (execOp ρ ⟨dst, .binOp .xor t x y yt, ty, pos, after, guard⟩).run P w = .ok (.value (.int k (bits .xor k p q))) w := by simp [execOp, hx, hy, go_sem]

theorem r_andNot {t yt : TypeId} {x y : Operand} {k : IntKind} {p q : Int} (hx : ρ x = .int k p) (hy : ρ y = .int k q) :
    (execOp ρ ⟨dst, .binOp .andNot t x y yt, ty, pos, after, guard⟩).run P w = .ok (.value (.int k (bits .andNot k p q))) w := by simp [execOp, hx, hy, go_sem]

theorem r_shl {t yt : TypeId} {x y : Operand} {k yk : IntKind} {p q : Int} (hx : ρ x = .int k p) (hy : ρ y = .int yk q) (h0 : 0 ≤ q) (h1 : q ≤ k.bits) :
    (execOp ρ ⟨dst, .binOp .shl t x y yt, ty, pos, after, guard⟩).run P w = .ok (.value (.int k (k.wrap (p * 2 ^ q.toNat)))) w := by
  simp [execOp, hx, hy, go_sem, shift_shl k yk p q h0 h1]

theorem r_shr {t yt : TypeId} {x y : Operand} {k yk : IntKind} {p q : Int} (hx : ρ x = .int k p) (hy : ρ y = .int yk q) (h0 : 0 ≤ q) (h1 : q ≤ k.bits) :
    (execOp ρ ⟨dst, .binOp .shr t x y yt, ty, pos, after, guard⟩).run P w = .ok (.value (.int k (p / 2 ^ q.toNat))) w := by
  simp [execOp, hx, hy, go_sem, shift_shr k yk p q h0 h1]

theorem r_eql {t yt : TypeId} {x y : Operand} {k : IntKind} {p q : Int} (hx : ρ x = .int k p) (hy : ρ y = .int k q) :
    (execOp ρ ⟨dst, .binOp .eql t x y yt, ty, pos, after, guard⟩).run P w = .ok (.value (.bool (decide (p = q)))) w := by simp [execOp, hx, hy, go_sem]; rfl

theorem r_neq {t yt : TypeId} {x y : Operand} {k : IntKind} {p q : Int} (hx : ρ x = .int k p) (hy : ρ y = .int k q) :
    (execOp ρ ⟨dst, .binOp .neq t x y yt, ty, pos, after, guard⟩).run P w = .ok (.value (.bool (decide (p ≠ q)))) w := by
  simp [execOp, hx, hy, go_sem]; rw [Bool.eq_iff_iff]; simp

theorem r_lss {t yt : TypeId} {x y : Operand} {k : IntKind} {p q : Int} (hx : ρ x = .int k p) (hy : ρ y = .int k q) :
    (execOp ρ ⟨dst, .binOp .lss t x y yt, ty, pos, after, guard⟩).run P w = .ok (.value (.bool (decide (p < q)))) w := by simp [execOp, hx, hy, go_sem]

theorem r_leq {t yt : TypeId} {x y : Operand} {k : IntKind} {p q : Int} (hx : ρ x = .int k p) (hy : ρ y = .int k q) :
    (execOp ρ ⟨dst, .binOp .leq t x y yt, ty, pos, after, guard⟩).run P w = .ok (.value (.bool (decide (p ≤ q)))) w := by simp [execOp, hx, hy, go_sem]

theorem r_gtr {t yt : TypeId} {x y : Operand} {k : IntKind} {p q : Int} (hx : ρ x = .int k p) (hy : ρ y = .int k q) :
    (execOp ρ ⟨dst, .binOp .gtr t x y yt, ty, pos, after, guard⟩).run P w = .ok (.value (.bool (decide (q < p)))) w := by simp [execOp, hx, hy, go_sem]

theorem r_geq {t yt : TypeId} {x y : Operand} {k : IntKind} {p q : Int} (hx : ρ x = .int k p) (hy : ρ y = .int k q) :
    (execOp ρ ⟨dst, .binOp .geq t x y yt, ty, pos, after, guard⟩).run P w = .ok (.value (.bool (decide (q ≤ p)))) w := by simp [execOp, hx, hy, go_sem]

theorem Bs_toL (s : Str) : (Bs s).toList = s := by rw [ByteArray.toList_eq]; simp [Bs]

theorem r_seql {t yt : TypeId} {x y : Operand} {p q : Str} (hx : ρ x = .string (Bs p)) (hy : ρ y = .string (Bs q)) :
    (execOp ρ ⟨dst, .binOp .eql t x y yt, ty, pos, after, guard⟩).run P w = .ok (.value (.bool (decide (p = q)))) w := by
  simp only [execOp, hx, hy, eqGuard_at_string, binOp, Op.stringOp, Bs_toL]; simp; rw [Bool.eq_iff_iff]; simp

theorem r_sneq {t yt : TypeId} {x y : Operand} {p q : Str} (hx : ρ x = .string (Bs p)) (hy : ρ y = .string (Bs q)) :
    (execOp ρ ⟨dst, .binOp .neq t x y yt, ty, pos, after, guard⟩).run P w = .ok (.value (.bool (decide (p ≠ q)))) w := by
  simp only [execOp, hx, hy, eqGuard_at_string, binOp, Op.stringOp, Bs_toL]; simp; rw [Bool.eq_iff_iff]; simp

theorem r_slss {t yt : TypeId} {x y : Operand} {p q : Str} (hx : ρ x = .string (Bs p)) (hy : ρ y = .string (Bs q)) :
    (execOp ρ ⟨dst, .binOp .lss t x y yt, ty, pos, after, guard⟩).run P w = .ok (.value (.bool (Op.bytesLess p q))) w := by
  simp only [execOp, hx, hy, eqGuard_at_string, binOp, Op.stringOp, Bs_toL]; simp

theorem r_sleq {t yt : TypeId} {x y : Operand} {p q : Str} (hx : ρ x = .string (Bs p)) (hy : ρ y = .string (Bs q)) :
    (execOp ρ ⟨dst, .binOp .leq t x y yt, ty, pos, after, guard⟩).run P w = .ok (.value (.bool (Op.bytesLess p q || decide (p = q)))) w := by
  simp only [execOp, hx, hy, eqGuard_at_string, binOp, Op.stringOp, Bs_toL]; simp; rw [Bool.eq_iff_iff]; simp

theorem r_sgtr {t yt : TypeId} {x y : Operand} {p q : Str} (hx : ρ x = .string (Bs p)) (hy : ρ y = .string (Bs q)) :
    (execOp ρ ⟨dst, .binOp .gtr t x y yt, ty, pos, after, guard⟩).run P w = .ok (.value (.bool (!(Op.bytesLess p q || decide (p = q))))) w := by
  simp only [execOp, hx, hy, eqGuard_at_string, binOp, Op.stringOp, Bs_toL]; simp; rw [Bool.eq_iff_iff]; simp

theorem r_sgeq {t yt : TypeId} {x y : Operand} {p q : Str} (hx : ρ x = .string (Bs p)) (hy : ρ y = .string (Bs q)) :
    (execOp ρ ⟨dst, .binOp .geq t x y yt, ty, pos, after, guard⟩).run P w = .ok (.value (.bool (!Op.bytesLess p q))) w := by
  simp only [execOp, hx, hy, eqGuard_at_string, binOp, Op.stringOp, Bs_toL]; simp

theorem r_sadd {t yt : TypeId} {x y : Operand} {p q : Str} (hx : ρ x = .string (Bs p)) (hy : ρ y = .string (Bs q)) (hb : p.length + q.length ≤ 9223372036854775807) :
    (execOp ρ ⟨dst, .binOp .add t x y yt, ty, pos, after, guard⟩).run P w = .ok (.value (.string (Bs (p ++ q)))) w := by
  have e : ¬ (((Bs p).size + (Bs q).size : Nat) : Int) > IntKind.i64.max := by
    rw [Bs_size, Bs_size]; simp only [IntKind.max, IntKind.bits, IntKind.signed]; simp; omega
  have e2 : Bs p ++ Bs q = Bs (p ++ q) := by
    apply ByteArray.ext; simp [Bs, ByteArray.data_append]
  simp only [execOp, hx, hy, eqGuard_at_string, binOp, Op.stringOp, e2, if_neg e]
  simp

theorem r_not {t : TypeId} {x : Operand} {b : Bool} (hx : ρ x = .bool b) :
    (execOp ρ ⟨dst, .unOp .not t x, ty, pos, after, guard⟩).run P w = .ok (.value (.bool (!b))) w := by simp [execOp, hx, Op.unary]

theorem r_neg {t : TypeId} {x : Operand} {k : IntKind} {p : Int} (hx : ρ x = .int k p) :
    (execOp ρ ⟨dst, .unOp .neg t x, ty, pos, after, guard⟩).run P w = .ok (.value (.int k (k.wrap (0 - p)))) w := by simp [execOp, hx, Op.unary, Op.intArith]

theorem r_cpl {t : TypeId} {x : Operand} {k : IntKind} {p : Int} (hx : ρ x = .int k p) :
    (execOp ρ ⟨dst, .unOp .xor t x, ty, pos, after, guard⟩).run P w = .ok (.value (.int k (bits .xor k (if k.signed then -1 else k.max) p))) w := by
  simp only [execOp, hx, Op.unary, intBits_xor]; rfl

theorem r_conv {s d : TypeId} {x : Operand} {k k' : IntKind} {p : Int} (hx : ρ x = .int k' p) (hs : (P.underlying s).isSome = true) (hd : P.underlying d = some (.int k)) :
    (execOp ρ ⟨dst, .convert s d x, ty, pos, after, guard⟩).run P w = .ok (.value (.int k (k.wrap p))) w := by
  obtain ⟨z, hz⟩ := Option.isSome_iff_exists.1 hs
  simp [execOp, hx, convert, run_underlying hz, run_underlying hd, Conv.intToInt]

theorem r_len {t : TypeId} {x : Operand} {s : Sl} {e : TypeId} (hx : ρ x = s.v) (ht : P.underlying t = some (.slice e)) :
    (execOp ρ ⟨dst, .call { callee := .builtin .len, args := #[x], argTypes := #[t] }, ty, pos, after, guard⟩).run P w = .ok (.value (.int .i64 (s.n : Int))) w := by
  simp [execOp, resolve, invoke, builtin, Builtin.len_, hx, run_underlying ht, goInt]

theorem r_slen {t : TypeId} {x : Operand} {s : Str} (hx : ρ x = .string (Bs s)) (ht : P.underlying t = some .string) :
    (execOp ρ ⟨dst, .call { callee := .builtin .len, args := #[x], argTypes := #[t] }, ty, pos, after, guard⟩).run P w = .ok (.value (.int .i64 (s.length : Int))) w := by
  simp [execOp, resolve, invoke, builtin, Builtin.len_, hx, run_underlying ht, goInt, Bs_size]

theorem r_min {t u : TypeId} {x y : Operand} {k : IntKind} {p q : Int} (hx : ρ x = .int k p) (hy : ρ y = .int k q) :
    (execOp ρ ⟨dst, .call { callee := .builtin .min, args := #[x, y], argTypes := #[t, u] }, ty, pos, after, guard⟩).run P w = .ok (.value (.int k (min p q))) w := by
  have e : (if q < p then q else p) = min p q := by omega
  simp [execOp, resolve, invoke, builtin, Builtin.min_, Builtin.min2, hx, hy, e]

theorem r_max {t u : TypeId} {x y : Operand} {k : IntKind} {p q : Int} (hx : ρ x = .int k p) (hy : ρ y = .int k q) :
    (execOp ρ ⟨dst, .call { callee := .builtin .max, args := #[x, y], argTypes := #[t, u] }, ty, pos, after, guard⟩).run P w = .ok (.value (.int k (max p q))) w := by
  have e : (if p < q then q else p) = max p q := by omega
  simp [execOp, resolve, invoke, builtin, Builtin.max_, Builtin.max2, hx, hy, e]

theorem r_extract {x : Operand} {vs : Array Value} {i : Nat} {v : Value} (hx : ρ x = .tuple vs) (hv : vs[i]? = some v) :
    (execOp ρ ⟨dst, .extract x i, ty, pos, after, guard⟩).run P w = .ok (.value v) w := by simp [execOp, Instr.extract, hx, hv]

theorem r_call {f : FuncId} {fn : Func} {xs : Array Operand} {ts : Array TypeId} {args : Array Value} (hf : P.funcs[f]? = some fn) (hn : fn.name ≠ "runtime.NumGoroutine") (hb : fn.body.isSome = true) (hx : xs.map ρ = args) (hρ : ρ (.func f) = .func (.func f) #[] #[]) :
    (execOp ρ ⟨dst, .call { callee := .value (.func f), args := xs, argTypes := ts }, ty, pos, after, guard⟩).run P w = .ok (.enter f args) w := by
  have e : program.run P w = .ok P w := rfl
  have hb' : fn.body.isNone = false := by cases h : fn.body <;> simp_all
  have hn' : (fn.name == "runtime.NumGoroutine") = false := by simpa using hn
  simp only [execOp, resolve, invoke, hρ, Deferred.ofValue, callFunc, hx]
  simp only [Sem.run_bind, Sem.run_pure, Result.andThen_ok, e, hf, hn', hb']
  simp

end runs
end

section
open Go.RowKit

/-- A type's row of the program's table: its zero value, its cells, its bytes. -/
def TI (P : Program) (t : TypeId) (z : Value) (size bytes : Nat) : Prop := ∃ i, P.info? t = some i ∧ i.zero = some z ∧ i.size = size ∧ i.bytes = bytes

theorem TI.of {P : Program} {e : TypeId} {z : Value} {size bytes : Nat} (h : (P.info? e).map (fun i => (i.zero, i.size, i.bytes)) = some (some z, size, bytes)) : TI P e z size bytes := info_parts h

section ti

variable {P : Program} {t : TypeId} {z : Value} {size bytes : Nat}

theorem TI.sizeOf (h : TI P t z size bytes) (w : World) : (Go.sizeOf t).run P w = .ok size w := by
  obtain ⟨i, hi, h1, h2, h3⟩ := h
  have e : program.run P w = .ok P w := rfl
  simp [Go.sizeOf, typeInfo, e, hi, h2]

theorem TI.zeroValue (h : TI P t z size bytes) (w : World) : (Go.zeroValue t).run P w = .ok z w := by
  obtain ⟨i, hi, h1, h2, h3⟩ := h
  have e : program.run P w = .ok P w := rfl
  simp [Go.zeroValue, typeInfo, e, hi, h1]

end ti

/-- The cells from an address on. -/
def Cells (w : World) (p : Addr) (cs : List Value) : Prop := ∀ j v, cs[j]? = some v → w.cell? (p.add j) = some v

theorem Cells.ext {w w' : World} {p : Addr} {cs : List Value} (h : Cells w p cs) (e : Ext w w') : Cells w' p cs := fun j v hv => e.cell (h j v hv)

theorem Addr.add_block (p : Addr) (j : Nat) : (p.add j).block = p.block := by unfold Addr.add; split <;> rfl

theorem Cells.chg {F : List Nat} {w w' : World} {p : Addr} {cs : List Value} (h : Cells w p cs) (e : Chg F w w') (hp : p.block ∉ F) : Cells w' p cs := fun j v hv => e.cell (h j v hv) (by rw [Addr.add_block]; exact hp)

theorem Box.cells {w : World} {B : Nat} {T : TypeId} {cs : List Value} (h : Box w B T cs) : Cells w ⟨B, 0, none⟩ cs := fun j v hv => by
  rw [Addr.add_lit, Nat.zero_add]; exact h.cell j v hv

/-- Some of a block's cells. -/
theorem Box.part {w : World} {B : Nat} {T : TypeId} {cs : List Value} (h : Box w B T cs) (o : Nat) (ds : List Value) (hd : (cs.drop o).take ds.length = ds) : Cells w ⟨B, o, none⟩ ds := fun j v hv => by
  rw [Addr.add_lit]
  refine h.cell (o + j) v ?_
  have hlt : j < ds.length := (List.getElem?_eq_some_iff.1 hv).1
  rw [← hd] at hv
  rw [List.getElem?_take] at hv
  simpa [hlt, List.getElem?_drop] using hv

def notAgg : TypeDesc → Bool
  | .struct _ | .array _ _ => false
  | _ => true

theorem run_isAgg_no {P : Program} {t : TypeId} {d : TypeDesc} (h : P.underlying t = some d) (hd : notAgg d = true) (w : World) : (isAgg t).run P w = .ok false w := by
  simp only [isAgg, Sem.run_bind, run_underlying h, Result.andThen_ok]
  cases d <;> first | rfl | (simp [notAgg] at hd)

theorem run_isAgg_yes {P : Program} {t : TypeId} {d : TypeDesc} (h : P.underlying t = some d) (hd : notAgg d = false) (w : World) : (isAgg t).run P w = .ok true w := by
  simp only [isAgg, Sem.run_bind, run_underlying h, Result.andThen_ok]
  cases d <;> first | rfl | (simp [notAgg] at hd)

/-- A block's first cells anew, from an offset on. -/
def setCells (w : World) (B : Nat) : Nat → List Value → World
  | _, [] => w
  | o, v :: vs => setCells (w.setCell ⟨B, o, none⟩ v) B (o + 1) vs

def putAt (cs : List Value) : Nat → List Value → List Value
  | _, [] => cs
  | o, v :: vs => putAt (cs.set o v) (o + 1) vs

theorem setCells_chg (B : Nat) (vs : List Value) : ∀ (w : World) (o : Nat), Chg [B] w (setCells w B o vs) := by
  induction vs with
  | nil => intro w o; exact Chg.refl _ _
  | cons v vs ih => intro w o; exact (Chg.setCell w ⟨B, o, none⟩ v).trans (ih _ _)

theorem setCells_box {B : Nat} {T : TypeId} (vs : List Value) : ∀ {w : World} {o : Nat} {cs : List Value}, Box w B T cs → Box (setCells w B o vs) B T (putAt cs o vs) := by
  induction vs with
  | nil => intro w o cs h; exact h
  | cons v vs ih => intro w o cs h; exact ih (h.setCell o v)

theorem run_storeCells_box {P : Program} {B : Nat} {T : TypeId} (o : Nat) (vs : List Value) : ∀ (i : Nat) {w : World} {cs : List Value}, Box w B T cs → o + i + vs.length ≤ cs.length → (∀ v ∈ vs, v.oneCell' = true) →
    (storeCells ⟨B, o, none⟩ vs i).run P w = .ok () (setCells w B (o + i) vs) := by
  induction vs with
  | nil => intro i w cs h hl h1; simp [storeCells, setCells]
  | cons v vs ih =>
    intro i w cs h hl h1
    simp only [List.length_cons] at hl
    have hc : w.cell? ⟨B, o + i, none⟩ = some (cs[o + i]'(by omega)) := h.cell (o + i) _ (List.getElem?_eq_getElem (by omega))
    have hs : (store ((⟨B, o, none⟩ : Addr).add i) v).run P w = .ok () (w.setCell ⟨B, o + i, none⟩ v) := by
      rw [run_store P w _ v _ (h1 v (by simp)), Addr.add_lit, hc]
      simp [h.free]
    simp only [storeCells, Sem.run_bind, hs, Result.andThen_ok]
    have := ih (i + 1) (h.setCell (o + i) v) (by simp; omega) (fun u hu => h1 u (by simp [hu]))
    rw [show o + (i + 1) = o + i + 1 by omega] at this
    simpa [setCells] using this

section runs

variable {P : Program} {ρ : Operand → Value} {w : World} {dst : Option Nat} {ty : TypeId} {pos : String} {after : Array Edge} {guard : Option (Nat × Bool)}

theorem r_box {t : TypeId} {x : Operand} {v : Value} {cs : List Value} (hx : ρ x = v) (hc : v.cells = cs.toArray) :
    (execOp ρ ⟨dst, .box t x, ty, pos, after, guard⟩).run P w = .ok (.value (.pointer (some ⟨w.heap.size, 0, none⟩))) (w.alloc (.cells cs.toArray t (0, 0))) := by
  simp only [execOp, hx, Instr.box, newVar, newRow, newObj, hc]; rfl

theorem r_alloc {t : TypeId} {z : Value} {size bytes : Nat} {cs : List Value} (ht : TI P t z size bytes) (hc : z.cells = cs.toArray) :
    (execOp ρ ⟨dst, .alloc t, ty, pos, after, guard⟩).run P w = .ok (.value (.pointer (some ⟨w.heap.size, 0, none⟩))) (w.alloc (.cells cs.toArray t (0, 0))) := by
  simp only [execOp, Instr.alloc, newVar, newRow, newObj, Sem.run_bind, ht.zeroValue w, Result.andThen_ok, hc]; rfl

theorem r_load1 {t : TypeId} {x : Operand} {p : Addr} {v : Value} {d : TypeDesc} (hu : P.underlying t = some d) (hd : notAgg d = true) (hx : ρ x = .pointer (some p)) (hc : w.cell? p = some v) :
    (execOp ρ ⟨dst, .load t x, ty, pos, after, guard⟩).run P w = .ok (.value v) w := by
  simp only [execOp, Instr.loadAt, hx, Instr.sureAddr, loadVar, Sem.run_bind, Sem.run_pure, Result.andThen_ok, run_isAgg_no hu hd w]
  simp [hc]

theorem r_loadN {t : TypeId} {x : Operand} {p : Addr} {cs : List Value} {d : TypeDesc} {z : Value} {bytes : Nat} (hu : P.underlying t = some d) (hd : notAgg d = false) (ht : TI P t z cs.length bytes) (hx : ρ x = .pointer (some p)) (hc : Cells w p cs) :
    (execOp ρ ⟨dst, .load t x, ty, pos, after, guard⟩).run P w = .ok (.value (.agg cs.toArray)) w := by
  simp only [execOp, Instr.loadAt, hx, Instr.sureAddr, loadVar, Sem.run_bind, Sem.run_pure, Result.andThen_ok, run_isAgg_yes hu hd w, if_true, ht.sizeOf w, run_loadCells_list w p cs hc]

theorem r_store {t : TypeId} {x y : Operand} {B o : Nat} {T : TypeId} {cs vs : List Value} {v z : Value} {bytes : Nat} (hx : ρ x = .pointer (some ⟨B, o, none⟩)) (hy : ρ y = v) (hv : v.cells = vs.toArray) (ht : TI P t z vs.length bytes)
    (hb : Box w B T cs) (hl : Nat.ble (o + vs.length) cs.length = true) (h1 : ∀ v ∈ vs, v.oneCell' = true) :
    (execOp ρ ⟨dst, .store t x y, ty, pos, after, guard⟩).run P w = .ok .skip (setCells w B o vs) := by
  have hl' : o + vs.length ≤ cs.length := by simpa using hl
  have := run_storeCells_box (P := P) o vs 0 hb (by simpa using hl') h1
  simp only [execOp, Instr.storeAt, hx, hy, Instr.sureAddr, storeVar, Sem.run_bind, Sem.run_pure, Result.andThen_ok, ht.sizeOf w, hv]
  simp only [List.size_toArray, ne_eq, not_true_eq_false, if_false]
  rw [show (o + 0) = o from rfl] at this
  simp [this]

theorem r_fieldAddr {s : TypeId} {x : Operand} {p : Addr} {i : Nat} {fs : Array Field} {f : Field} {z : Value} {size bytes : Nat} (hx : ρ x = .pointer (some p)) (hu : P.underlying s = some (.struct fs)) (hf : fs[i]? = some f) (ht : TI P f.type z size bytes) (h0 : size ≠ 0) :
    (execOp ρ ⟨dst, .fieldAddr s x i, ty, pos, after, guard⟩).run P w = .ok (.value (.pointer (some (p.add f.offset)))) w := by
  simp only [execOp, Instr.fieldAt, Sem.run_bind, run_underlying hu, Result.andThen_ok, hf, hx, Instr.sureAddr, Sem.run_pure, fieldPlace, ht.sizeOf w, if_neg h0]

theorem r_field {s : TypeId} {x : Operand} {i : Nat} {fs : Array Field} {f : Field} {cs : Array Value} {v : Value} {d : TypeDesc} (hx : ρ x = .agg cs) (hu : P.underlying s = some (.struct fs)) (hf : fs[i]? = some f) (hd : P.underlying f.type = some d) (hn : notAgg d = true) (hv : cs[f.offset]? = some v) :
    (execOp ρ ⟨dst, .field s x i, ty, pos, after, guard⟩).run P w = .ok (.value v) w := by
  simp [execOp, Instr.field, run_underlying hu, hf, hx, asAgg, part, run_isAgg_no hd hn w, hv]

theorem r_indexAddr {t e : TypeId} {x y : Operand} {s : Sl} {k : IntKind} {i : Int} {p : Addr} {z : Value} {size bytes : Nat} (hx : ρ x = s.v) (hy : ρ y = .int k i) (hu : P.underlying t = some (.slice e)) (ht : TI P e z size bytes) (hb : 0 ≤ i ∧ i < s.n) (ha : s.a = some p) :
    (execOp ρ ⟨dst, .indexAddr t x y, ty, pos, after, guard⟩).run P w = .ok (.value (.pointer (some (p.add (i.toNat * size))))) w := by
  simp only [execOp, Instr.indexAt, hx, hy, asIntOf, Sem.run_bind, Sem.run_pure, Result.andThen_ok, run_underlying hu, Sl.v, ha, if_pos hb, ht.sizeOf w]

theorem r_indexAddrA {t e : TypeId} {x y : Operand} {n : Nat} {k : IntKind} {i : Int} {p : Addr} {z : Value} {size bytes : Nat} (hx : ρ x = .pointer (some p)) (hy : ρ y = .int k i) (hu : P.underlying t = some (.array n e)) (ht : TI P e z size bytes) (hb : 0 ≤ i ∧ i < n) :
    (execOp ρ ⟨dst, .indexAddr t x y, ty, pos, after, guard⟩).run P w = .ok (.value (.pointer (some (p.add (i.toNat * size))))) w := by
  simp only [execOp, Instr.indexAt, hx, hy, asIntOf, Sem.run_bind, Sem.run_pure, Result.andThen_ok, run_underlying hu, Instr.sureAddr, if_pos hb, ht.sizeOf w]

theorem r_sindex {t : TypeId} {x y : Operand} {s : Str} {k : IntKind} {i : Int} (hx : ρ x = .string (Bs s)) (hy : ρ y = .int k i) (hu : P.underlying t = some .string) (hb : 0 ≤ i ∧ i < s.length) :
    (execOp ρ ⟨dst, .index t x y, ty, pos, after, guard⟩).run P w = .ok (.value (.int .u8 ((s.getD i.toNat 0).toNat : Int))) w := by
  have hlt : i.toNat < s.length := by omega
  have e : (Bs s)[i.toNat]? = some (s.getD i.toNat 0) := by
    have hz : i.toNat < (Bs s).size := by rw [Bs_size]; exact hlt
    rw [getElem?_pos (Bs s) i.toNat hz]
    simp [Bs, ByteArray.getElem_eq_getElem_data, List.getD_eq_getElem?_getD, hlt]
  simp only [execOp, Instr.index, hx, hy, asIntOf, Sem.run_bind, Sem.run_pure, Result.andThen_ok, run_underlying hu, if_pos hb.1, e]

/-- A slice's part. -/
def Sl.cut (s : Sl) (size lo hi mx : Nat) : Sl := ⟨if mx = lo then s.a else s.a.map (·.add (lo * size)), hi - lo, mx - lo⟩

theorem run_sliceBound {k : IntKind} {i : Int} {y : Nat} {code : BoundsCode} (h : 0 ≤ i ∧ i ≤ y) : (Instr.sliceBound (.int k i) y code).run P w = .ok i.toNat w := by
  simp [Instr.sliceBound, asIntOf, h]

theorem r_slice2 {t e : TypeId} {x : Operand} {lo hi : Operand} {s : Sl} {j k : IntKind} {l h : Int} {z : Value} {size bytes : Nat} (hx : ρ x = s.v) (hl : ρ lo = .int j l) (hh : ρ hi = .int k h) (hu : P.underlying t = some (.slice e)) (ht : TI P e z size bytes) (hb : 0 ≤ l ∧ l ≤ h ∧ h ≤ s.c) :
    (execOp ρ ⟨dst, .slice t x (some lo) (some hi) none, ty, pos, after, guard⟩).run P w = .ok (.value (s.cut size l.toNat h.toNat s.c).v) w := by
  have h1 : 0 ≤ h ∧ h ≤ s.c := by omega
  have h2 : 0 ≤ l ∧ l ≤ (h.toNat : Int) := by omega
  simp [execOp, Instr.sliceAt, Instr.slice, Instr.sliceBounds, hx, hl, hh, Sl.v, Sl.cut, run_underlying hu, run_sliceBound h1, run_sliceBound h2, ht.sizeOf w]

theorem r_sliceH {t e : TypeId} {x : Operand} {hi : Operand} {s : Sl} {k : IntKind} {h : Int} {z : Value} {size bytes : Nat} (hx : ρ x = s.v) (hh : ρ hi = .int k h) (hu : P.underlying t = some (.slice e)) (ht : TI P e z size bytes) (hb : 0 ≤ h ∧ h ≤ s.c) :
    (execOp ρ ⟨dst, .slice t x none (some hi) none, ty, pos, after, guard⟩).run P w = .ok (.value (s.cut size 0 h.toNat s.c).v) w := by
  simp [execOp, Instr.sliceAt, Instr.slice, Instr.sliceBounds, hx, hh, Sl.v, Sl.cut, run_underlying hu, run_sliceBound hb, ht.sizeOf w]

theorem r_sliceL {t e : TypeId} {x : Operand} {lo : Operand} {s : Sl} {k : IntKind} {l : Int} {z : Value} {size bytes : Nat} (hx : ρ x = s.v) (hl : ρ lo = .int k l) (hu : P.underlying t = some (.slice e)) (ht : TI P e z size bytes) (hb : 0 ≤ l ∧ l ≤ s.n) :
    (execOp ρ ⟨dst, .slice t x (some lo) none none, ty, pos, after, guard⟩).run P w = .ok (.value (s.cut size l.toNat s.n s.c).v) w := by
  simp [execOp, Instr.sliceAt, Instr.slice, Instr.sliceBounds, hx, hl, Sl.v, Sl.cut, run_underlying hu, run_sliceBound hb, ht.sizeOf w]

theorem r_slice0 {t e : TypeId} {x : Operand} {s : Sl} {z : Value} {size bytes : Nat} (hx : ρ x = s.v) (hu : P.underlying t = some (.slice e)) (ht : TI P e z size bytes) :
    (execOp ρ ⟨dst, .slice t x none none none, ty, pos, after, guard⟩).run P w = .ok (.value (s.cut size 0 s.n s.c).v) w := by
  simp [execOp, Instr.sliceAt, Instr.slice, Instr.sliceBounds, hx, Sl.v, Sl.cut, run_underlying hu, ht.sizeOf w]

theorem r_slice3 {t e : TypeId} {x : Operand} {lo hi mx : Operand} {s : Sl} {j k q : IntKind} {l h m : Int} {z : Value} {size bytes : Nat} (hx : ρ x = s.v) (hl : ρ lo = .int j l) (hh : ρ hi = .int k h) (hm : ρ mx = .int q m) (hu : P.underlying t = some (.slice e)) (ht : TI P e z size bytes) (hb : 0 ≤ l ∧ l ≤ h ∧ h ≤ m ∧ m ≤ s.c) :
    (execOp ρ ⟨dst, .slice t x (some lo) (some hi) (some mx), ty, pos, after, guard⟩).run P w = .ok (.value (s.cut size l.toNat h.toNat m.toNat).v) w := by
  have h0 : 0 ≤ m ∧ m ≤ s.c := by omega
  have h1 : 0 ≤ h ∧ h ≤ (m.toNat : Int) := by omega
  have h2 : 0 ≤ l ∧ l ≤ (h.toNat : Int) := by omega
  simp [execOp, Instr.sliceAt, Instr.slice, Instr.sliceBounds, hx, hl, hh, hm, Sl.v, Sl.cut, run_underlying hu, run_sliceBound h0, run_sliceBound h1, run_sliceBound h2, ht.sizeOf w]

theorem r_slice3H {t e : TypeId} {x : Operand} {hi mx : Operand} {s : Sl} {k q : IntKind} {h m : Int} {z : Value} {size bytes : Nat} (hx : ρ x = s.v) (hh : ρ hi = .int k h) (hm : ρ mx = .int q m) (hu : P.underlying t = some (.slice e)) (ht : TI P e z size bytes) (hb : 0 ≤ h ∧ h ≤ m ∧ m ≤ s.c) :
    (execOp ρ ⟨dst, .slice t x none (some hi) (some mx), ty, pos, after, guard⟩).run P w = .ok (.value (s.cut size 0 h.toNat m.toNat).v) w := by
  have h0 : 0 ≤ m ∧ m ≤ s.c := by omega
  have h1 : 0 ≤ h ∧ h ≤ (m.toNat : Int) := by omega
  simp [execOp, Instr.sliceAt, Instr.slice, Instr.sliceBounds, hx, hh, hm, Sl.v, Sl.cut, run_underlying hu, run_sliceBound h0, run_sliceBound h1, ht.sizeOf w]

theorem Bs_extract (s : Str) (l h : Nat) : (Bs s).extract l h = Bs ((s.drop l).take (h - l)) := by
  apply ByteArray.ext
  simp [Bs, ByteArray.data_extract]

theorem r_sslice2 {t : TypeId} {x lo hi : Operand} {s : Str} {j k : IntKind} {l h : Int} (hx : ρ x = .string (Bs s)) (hl : ρ lo = .int j l) (hh : ρ hi = .int k h) (hu : P.underlying t = some .string) (hb : 0 ≤ l ∧ l ≤ h ∧ h ≤ s.length) :
    (execOp ρ ⟨dst, .slice t x (some lo) (some hi) none, ty, pos, after, guard⟩).run P w = .ok (.value (.string (Bs ((s.drop l.toNat).take (h.toNat - l.toNat))))) w := by
  have h1 : 0 ≤ h ∧ h ≤ ((Bs s).size : Int) := by rw [Bs_size]; omega
  have h2 : 0 ≤ l ∧ l ≤ (h.toNat : Int) := by omega
  simp [execOp, Instr.sliceAt, Instr.slice, Instr.sliceBounds, hx, hl, hh, run_underlying hu, run_sliceBound h1, run_sliceBound h2, Bs_extract]

theorem r_ssliceH {t : TypeId} {x hi : Operand} {s : Str} {k : IntKind} {h : Int} (hx : ρ x = .string (Bs s)) (hh : ρ hi = .int k h) (hu : P.underlying t = some .string) (hb : 0 ≤ h ∧ h ≤ s.length) :
    (execOp ρ ⟨dst, .slice t x none (some hi) none, ty, pos, after, guard⟩).run P w = .ok (.value (.string (Bs (s.take h.toNat)))) w := by
  have h1 : 0 ≤ h ∧ h ≤ ((Bs s).size : Int) := by rw [Bs_size]; omega
  simp [execOp, Instr.sliceAt, Instr.slice, Instr.sliceBounds, hx, hh, run_underlying hu, run_sliceBound h1, Bs_extract]

theorem r_ssliceL {t : TypeId} {x lo : Operand} {s : Str} {k : IntKind} {l : Int} (hx : ρ x = .string (Bs s)) (hl : ρ lo = .int k l) (hu : P.underlying t = some .string) (hb : 0 ≤ l ∧ l ≤ s.length) :
    (execOp ρ ⟨dst, .slice t x (some lo) none none, ty, pos, after, guard⟩).run P w = .ok (.value (.string (Bs (s.drop l.toNat)))) w := by
  have h1 : 0 ≤ l ∧ l ≤ (s.length : Int) := by omega
  have e : (s.drop l.toNat).take (s.length - l.toNat) = s.drop l.toNat := List.take_of_length_le (by simp)
  simp [execOp, Instr.sliceAt, Instr.slice, Instr.sliceBounds, hx, hl, run_underlying hu, run_sliceBound h1, Bs_extract, Bs_size, e]

theorem r_append {t u : TypeId} {x y : Operand} {v1 v2 v : Value} {w' : World} (hx : ρ x = v1) (hy : ρ y = v2) (hr : (Builtin.append_ #[t, u] ty #[v1, v2]).run P w = .ok v w') :
    (execOp ρ ⟨dst, .call { callee := .builtin .append, args := #[x, y], argTypes := #[t, u] }, ty, pos, after, guard⟩).run P w = .ok (.value v) w' := by
  simp [execOp, resolve, invoke, builtin, hx, hy, hr]

theorem r_copy {t u : TypeId} {x y : Operand} {v1 v2 v : Value} {w' : World} (hx : ρ x = v1) (hy : ρ y = v2) (hr : (Builtin.copy_ #[t, u] ty #[v1, v2]).run P w = .ok v w') :
    (execOp ρ ⟨dst, .call { callee := .builtin .copy, args := #[x, y], argTypes := #[t, u] }, ty, pos, after, guard⟩).run P w = .ok (.value v) w' := by
  simp [execOp, resolve, invoke, builtin, hx, hy, hr]

theorem r_convR {s d : TypeId} {x : Operand} {v1 v : Value} {w' : World} (hx : ρ x = v1) (hr : (convert s d v1).run P w = .ok v w') :
    (execOp ρ ⟨dst, .convert s d x, ty, pos, after, guard⟩).run P w = .ok (.value v) w' := by
  simp [execOp, hx, hr]

end runs
end

section
open Go.RowKit

section

variable {P : Program} {ops : Array Oper} {Q : Exit → Act → World → Prop}

/-- Each edge that binds leads back. -/
def backOk (ops : Array Oper) : Bool := (List.range ops.size).all fun j => ((ops[j]?).map fun o => o.after.all fun e => !Region.binds .any e || decide (e.on < j)).getD true

/-- D names for each operation some that must have come ahead of it. -/
def certOk (ops : Array Oper) (D : List (List Nat)) : Bool :=
  (List.range ops.size).all fun j => (D.getD j []).all fun x => decide (x < j) && ((ops[j]?).map fun o => o.after.toList.any fun e => Region.binds .any e && (e.on == x || (D.getD e.on []).contains x)).getD false

/-- The operations of T are closed. -/
def doneOk (D : List (List Nat)) (T : List Nat) : Bool := T.all fun j => (D.getD j []).all fun x => T.contains x

/-- What is in neither T nor S waits for all of S. -/
def waitOk (ops : Array Oper) (D : List (List Nat)) (T S : List Nat) : Bool := (List.range ops.size).all fun j => T.contains j || S.contains j || S.all fun i => (D.getD j []).contains i

/-- The operations of T have come, in whatever order: what is asked of what follows. -/
def PR (P : Program) (ops : Array Oper) (Q : Exit → Act → World → Prop) (T : List Nat) (a : Act) (w : World) : Prop :=
  ∀ fuel (listed : Array Bool), listed.size = ops.size → (∀ i, i < ops.size → (listed.getD i false = true ↔ i ∈ T)) → listed.toList.count false ≤ fuel → wpAny P .any ops Q fuel listed a w

theorem draw_region {id : Nat} {l : List Oper} {a : Act} {w : World} (hm : P.follows .mixedOrders = true) (h : PR P l.toArray Q [] a { w with drawn := w.drawn + 1 }) : (Code.region id l.toArray true).wp P Q a w := by
  refine wp_region_any hm (h _ _ (by simp) (fun i hi => ?_) ?_)
  · simp [Array.getD_eq_getD_getElem?, Array.getElem?_replicate]
    split <;> simp
  · simp

theorem count_set (l : Array Bool) (i : Nat) (hi : i < l.size) (h : l.getD i true = false) : (l.setIfInBounds i true).toList.count false + 1 = l.toList.count false := by
  have hv : l[i] = false := by simpa [Array.getD, hi] using h
  have hv' : l.toList[i]'(by simpa using hi) = false := by simpa using hv
  have hpos : 0 < l.toList.count false := List.count_pos_iff.2 (by rw [← hv']; exact List.getElem_mem _)
  have h3 := List.count_set (l := l.toList) (i := i) (a := true) (b := false) (by simpa using hi)
  rw [hv'] at h3
  rw [Array.toList_setIfInBounds, h3]
  simp only [beq_self_eq_true, if_true, show (true == false) = false from rfl, Bool.false_eq_true, if_false]
  omega

theorem getD_set (l : Array Bool) (i j : Nat) (hi : i < l.size) (d : Bool) : (l.setIfInBounds i true).getD j d = if j = i then true else l.getD j d := by
  by_cases e : j = i
  · subst e; simp [Array.getD, hi]
  · rw [if_neg e]; simp [Array.getD_eq_getD_getElem?, Array.getElem?_setIfInBounds_ne (fun h => e h.symm)]

/-- Some operation can come, as long as one has not. -/
theorem ready_some (hb : backOk ops = true) {listed : Array Bool} (hs : listed.size = ops.size) (i : Nat) (hi : i < ops.size) (hl : listed.getD i false = false) : Region.ready .any ops listed ≠ [] := by
  have key : ∀ n, ∀ i, i ≤ n → i < ops.size → listed.getD i false = false → ∃ j, j ∈ Region.ready .any ops listed := by
    intro n
    induction n with
    | zero =>
      intro i h0 hi hl
      obtain rfl : i = 0 := by omega
      refine ⟨0, mem_ready.2 ⟨by simpa [Array.getD, hs, hi] using hl, ops[0], by simp [hi], fun e he hbd => ?_⟩⟩
      exfalso
      simp only [backOk, List.all_eq_true, List.mem_range] at hb
      have := hb 0 hi
      simp only [Array.getElem?_eq_getElem hi, Option.map_some, Option.getD_some, Array.all_eq_true_iff_forall_mem] at this
      have := this e he
      simp [hbd] at this
    | succ n ih =>
      intro i h0 hi hl
      by_cases hall : ∀ j, j < i → listed.getD j false = true
      · refine ⟨i, mem_ready.2 ⟨by simpa [Array.getD, hs, hi] using hl, ops[i], by simp [hi], fun e he hbd => ?_⟩⟩
        simp only [backOk, List.all_eq_true, List.mem_range] at hb
        have := hb i hi
        simp only [Array.getElem?_eq_getElem hi, Option.map_some, Option.getD_some, Array.all_eq_true_iff_forall_mem] at this
        have := this e he
        simp [hbd] at this
        exact hall _ this
      · have ⟨j, hj⟩ := Classical.not_forall.1 hall
        have ⟨hj1, hj2⟩ := Classical.not_imp.1 hj
        exact ih j (by omega) (by omega) (by simpa using hj2)
  obtain ⟨j, hj⟩ := key i i (Nat.le_refl _) hi hl
  intro h
  rw [h] at hj; cases hj

theorem cert_listed {D : List (List Nat)} (hc : certOk ops D = true) {listed : Array Bool} (hdc : ∀ j, listed.getD j false = true → ∀ x ∈ D.getD j [], listed.getD x false = true) {j : Nat} (hj : j ∈ Region.ready .any ops listed) :
    ∀ x ∈ D.getD j [], listed.getD x false = true := by
  intro x hx
  obtain ⟨h1, o, ho, h2⟩ := mem_ready.1 hj
  have hlt : j < ops.size := (Array.getElem?_eq_some_iff.1 ho).1
  simp only [certOk, List.all_eq_true, List.mem_range] at hc
  have := hc j hlt x hx
  rw [ho] at this
  simp only [Option.map_some, Option.getD_some, Bool.and_eq_true, List.any_eq_true] at this
  obtain ⟨_, e, he, hbe⟩ := this
  simp only [Bool.or_eq_true, beq_iff_eq, List.contains_iff_mem] at hbe
  obtain ⟨hb1, hb2⟩ := hbe
  have hl := h2 e (Array.mem_toList_iff.1 he) hb1
  rcases hb2 with rfl | hb2
  · exact hl
  · exact hdc _ hl x hb2

theorem wpOp_of_opK {i : Nat} {o : Oper} {K : Act → World → Prop} {a : Act} {w : World} (ho : ops[i]? = some o) (h : opK P ops Q o K a w) : wpOp P ops Q i K a w := by
  unfold wpOp
  simp only [ho]
  unfold opK at h
  split
  · rename_i hw; rw [if_pos hw] at h; exact .inl h
  · rename_i hw; rw [if_neg hw] at h; exact h

theorem PR_end {T : List Nat} {a : Act} {w : World} (hT : ((List.range ops.size).all fun i => T.contains i) = true) (h : Q .normal a w) : PR P ops Q T a w := by
  intro fuel listed hs hl _
  have hr : Region.ready .any ops listed = [] := by
    cases he : Region.ready .any ops listed with
    | nil => rfl
    | cons j r =>
      have hj : j ∈ Region.ready .any ops listed := by rw [he]; exact List.mem_cons_self ..
      obtain ⟨h1, o, ho, _⟩ := mem_ready.1 hj
      have hlt : j < ops.size := (Array.getElem?_eq_some_iff.1 ho).1
      simp only [List.all_eq_true, List.mem_range, List.contains_iff_mem] at hT
      have := (hl j hlt).2 (hT j hlt)
      simp [Array.getD, hs, hlt] at this h1
      rw [h1] at this; cases this
  cases fuel with
  | zero => exact ⟨hr, h⟩
  | succ n => exact ⟨fun _ => h, fun i hi => by rw [hr] at hi; cases hi⟩

/-- What holds while the operations of S come. -/
structure Mid (D : List (List Nat)) (T S : List Nat) (ops : Array Oper) (F : List Nat) (V : Nat → Value → World → Prop) (a0 : Act) (w0 : World) (listed : Array Bool) (a : Act) (w : World) : Prop where
  size : listed.size = ops.size
  only : ∀ i, listed.getD i false = true → i ∈ T ∨ i ∈ S
  old : ∀ i ∈ T, i < ops.size → listed.getD i false = true
  closed : ∀ j, listed.getD j false = true → ∀ x ∈ D.getD j [], listed.getD x false = true
  chg : Chg F w0 w
  tsize : a.tmps.size = a0.tmps.size
  defers : a.defers = a0.defers
  same : ∀ t, (∀ i ∈ S, (ops[i]?).bind (·.dst) ≠ some t) → a.tmps.getD t undef = a0.tmps.getD t undef
  vals : ∀ i ∈ S, listed.getD i false = true → ∀ t, (ops[i]?).bind (·.dst) = some t → V i (a.tmps.getD t undef) w

def apartOk (T S : List Nat) : Bool := S.all fun i => !T.contains i

/-- **One operation that must come next.** -/
theorem PR_one {D : List (List Nat)} {T : List Nat} {i : Nat} {o : Oper} {a : Act} {w : World} (hb : backOk ops = true) (hc : certOk ops D = true) (hd : doneOk D T = true) (hw : waitOk ops D T [i] = true) (hap : apartOk T [i] = true)
    (ho : ops[i]? = some o) (h : opK P ops Q o (PR P ops Q (T ++ [i])) a w) : PR P ops Q T a w := by
  intro fuel listed hs hl hcount
  have hlt : i < ops.size := (Array.getElem?_eq_some_iff.1 ho).1
  have hiT : i ∉ T := by
    simp only [apartOk, List.all_eq_true, Bool.not_eq_true', ← Bool.not_eq_true, List.contains_iff_mem] at hap
    exact hap i (by simp)
  have hil : listed.getD i false = false := by
    cases hh : listed.getD i false with
    | false => rfl
    | true => exact absurd ((hl i hlt).1 hh) hiT
  have hdc : ∀ j, listed.getD j false = true → ∀ x ∈ D.getD j [], listed.getD x false = true := by
    intro j hj x hx
    have hjlt : j < ops.size := by
      rcases Nat.lt_or_ge j ops.size with h | h
      · exact h
      · simp [Array.getD, hs, Nat.not_lt.2 h] at hj
    have hjT := (hl j hjlt).1 hj
    simp only [doneOk, List.all_eq_true, List.contains_iff_mem] at hd
    have hxT := hd j hjT x hx
    simp only [certOk, List.all_eq_true, List.mem_range, Bool.and_eq_true, decide_eq_true_eq] at hc
    have := (hc j hjlt x hx).1
    exact (hl x (by omega)).2 hxT
  have hrs := ready_some hb hs i hlt hil
  have honly : ∀ j ∈ Region.ready .any ops listed, j = i := by
    intro j hj
    have hcl := cert_listed hc hdc hj
    obtain ⟨h1, o', ho', h2⟩ := mem_ready.1 hj
    have hjlt : j < ops.size := (Array.getElem?_eq_some_iff.1 ho').1
    simp only [waitOk, List.all_eq_true, List.mem_range, Bool.or_eq_true, List.contains_iff_mem, List.mem_singleton] at hw
    rcases hw j hjlt with (hT | hS) | hall
    · have := (hl j hjlt).2 hT
      simp [Array.getD, hs, hjlt] at this h1
      rw [h1] at this; cases this
    · exact hS
    · have := hcl i (hall i rfl)
      rw [hil] at this; cases this
  cases fuel with
  | zero =>
    exfalso
    have h0 : listed.toList.count false = 0 := by omega
    have hn := List.count_eq_zero.1 h0
    have hsz : i < listed.size := by rw [hs]; exact hlt
    have hv : listed[i] = false := by simpa [Array.getD, hsz] using hil
    exact hn (by rw [← hv]; exact Array.mem_toList_iff.2 (Array.getElem_mem hsz))
  | succ fuel =>
    refine ⟨fun hh => absurd hh hrs, fun j hj => ?_⟩
    obtain rfl := honly j hj
    have hils : j < listed.size := by rw [hs]; exact hlt
    have h1 : listed.getD j true = false := by simp [Array.getD, hils] at hil ⊢; exact hil
    refine wpOp_of_opK ho (opK_mono h fun a' w' hk => hk fuel _ (by simp [hs]) (fun i hi => ?_) (by have := count_set listed j hils h1; omega))
    rw [getD_set _ _ _ hils]
    split
    · rename_i e; subst e; simp
    · rename_i e
      rw [hl i hi]
      simp [e]

end
end

section
open Go.RowKit

def I64 (x : Int) : Prop := -9223372036854775808 ≤ x ∧ x ≤ 9223372036854775807

theorem wrapI {x : Int} (h : I64 x) : IntKind.i64.wrap x = x := by
  obtain ⟨h1, h2⟩ := h
  rw [IntKind.wrap_i64]; omega

section runs

variable {P : Program} {ρ : Operand → Value} {w : World} {dst : Option Nat} {ty : TypeId} {pos : String} {after : Array Edge} {guard : Option (Nat × Bool)}

theorem r_addI {t yt : TypeId} {x y : Operand} {p q : Int} (hx : ρ x = .int .i64 p) (hy : ρ y = .int .i64 q) (h : I64 (p + q)) :
    (execOp ρ ⟨dst, .binOp .add t x y yt, ty, pos, after, guard⟩).run P w = .ok (.value (.int .i64 (p + q))) w := by rw [r_add hx hy, wrapI h]

theorem r_buildSlice {t e len : TypeId} {parts : Array (Nat × Operand)} {vs : Array (Nat × Value)} {cs : List Value} {ze : Value} {esize ebytes : Nat}
    (hp : (parts.map fun (i, x) => (i, ρ x)) = vs) (hu : P.underlying t = some (.slice e)) (he : TI P e ze esize ebytes) (hle : Nat.ble (len * esize) (2 ^ 24) = true) (h0 : Nat.blt 0 (len * esize) = true)
    (hf : Instr.fill (fun i => some (i * esize, esize)) ((Array.range (len * esize)).map (ze.cells[· % ze.cells.size]!)) vs.toList = some cs.toArray) :
    (execOp ρ ⟨dst, .buildSlice t len parts, ty, pos, after, guard⟩).run P w = .ok (.value (.slice (some ⟨w.heap.size, 0, none⟩) len len)) (w.alloc (.cells cs.toArray e (0, 0))) := by
  have h1' : len * esize ≤ 2 ^ 24 := Nat.le_of_ble_eq_true hle
  have h1 : ¬ len * esize > 2 ^ 24 := Nat.not_lt.2 h1'
  have h2' : 0 < len * esize := by simpa [Nat.blt_eq] using h0
  have h2 : ¬ len * esize = 0 := Nat.ne_of_gt h2'
  simp only [execOp, hp, Instr.buildSlice, Sem.run_bind, run_underlying hu, Result.andThen_ok, he.sizeOf w, if_neg h1, if_neg h2, he.zeroValue w, hf, Sem.run_pure]
  simp only [newRow, newObj]
  rfl

theorem r_makeFunc {fn : Fn} {xs ys : Array Operand} {f c : Array Value} (hx : xs.map ρ = f) (hy : ys.map ρ = c) :
    (execOp ρ ⟨dst, .makeFunc fn xs ys, ty, pos, after, guard⟩).run P w = .ok (.value (.func fn f c)) w := by
  simp [execOp, Instr.makeFunc, hx, hy]

theorem r_callV {x : Operand} {f : FuncId} {fn : Func} {xs : Array Operand} {ts : Array TypeId} {args fst cap : Array Value} (hf : P.funcs[f]? = some fn) (hn : fn.name ≠ "runtime.NumGoroutine") (hb : fn.body.isSome = true) (hx : xs.map ρ = args) (hρ : ρ x = .func (.func f) fst cap) :
    (execOp ρ ⟨dst, .call { callee := .value x, args := xs, argTypes := ts }, ty, pos, after, guard⟩).run P w = .ok (.enter f (fst ++ args ++ cap)) w := by
  have e : program.run P w = .ok P w := rfl
  have hb' : fn.body.isNone = false := by cases h : fn.body <;> simp_all
  have hn' : (fn.name == "runtime.NumGoroutine") = false := by simpa using hn
  simp only [execOp, resolve, invoke, hρ, Deferred.ofValue, callFunc, hx]
  simp only [Sem.run_bind, Sem.run_pure, Result.andThen_ok, e, hf, hn', hb']
  simp

end runs

section ops

variable {P : Program} {ops : Array Oper} {Q : Exit → Act → World → Prop} {K : Act → World → Prop} {n : Nat} {a : Act} {w : World} {L : List (Nat × Value)}

theorem New.up {wa w w' : World} {B : Nat} (h : New wa B w) (hs : w.heap.size ≤ w'.heap.size) : New wa B w' := ⟨h.ge, Nat.lt_of_lt_of_le h.lt hs⟩

theorem New.of {wa w w' : World} {B : Nat} {F : List Nat} (c : Chg F wa w) (h : New w B w') : New wa B w' := ⟨Nat.le_trans c.size h.ge, h.lt⟩

theorem Chg.more {F : List Nat} {wa w w' : World} (c : Chg F wa w) (h : Ext w w') : Chg F wa w' := c.trans (Chg.ext h)

/-- What an operation finds when its turn comes. -/
structure Turn (ops : Array Oper) (D : List (List Nat)) (S F : List Nat) (V : Nat → Value → World → Prop) (n : Nat) (a0 : Act) (w0 : World) (i : Nat) (a : Act) (w : World) : Prop where
  size : a.tmps.size = n
  defs : a.defers = []
  chg : Chg F w0 w
  same : ∀ t, (∀ j ∈ S, (ops[j]?).bind (·.dst) ≠ some t) → a.tmps.getD t undef = a0.tmps.getD t undef
  vals : ∀ j, (S.contains j && (D.getD i []).contains j) = true → ∀ t, (ops[j]?).bind (·.dst) = some t → V j (a.tmps.getD t undef) w

def keysOk (ops : Array Oper) (S : List Nat) (L : List (Nat × Value)) : Bool := L.all fun p => S.all fun j => (ops[j]?).bind (·.dst) != some p.1

theorem same_ag {S : List Nat} {a0 : Act} (hA : Ag n a0 L) (hs : a.tmps.size = n) (hd : a.defers = []) (hsame : ∀ t, (∀ j ∈ S, (ops[j]?).bind (·.dst) ≠ some t) → a.tmps.getD t undef = a0.tmps.getD t undef)
    (L' : List (Nat × Value)) (hsub : SubL L L') (hk : keysOk ops S L' = true) : Ag n a L' := by
  refine ⟨hs, hd, fun t v hv => ?_⟩
  have hmem : ∀ (M : List (Nat × Value)), lookupL t M = some v → ∃ u, (t, u) ∈ M := by
    intro M
    induction M with
    | nil => intro h; simp [lookupL] at h
    | cons p M ih =>
      obtain ⟨d, u⟩ := p
      intro h
      simp only [lookupL] at h
      cases hb : Nat.beq t d
      · rw [hb] at h
        obtain ⟨u', hu'⟩ := ih (by simpa using h)
        exact ⟨u', List.mem_cons_of_mem _ hu'⟩
      · have e : t = d := Nat.eq_of_beq_eq_true hb
        subst e
        exact ⟨u, List.mem_cons_self ..⟩
  obtain ⟨u, hu⟩ := hmem L' hv
  simp only [keysOk, List.all_eq_true, bne_iff_ne] at hk
  rw [hsame t (fun j hj => hk (t, u) hu j hj)]
  exact hA.val t v (hsub.look t v hv)

theorem Turn.ag {D : List (List Nat)} {S F : List Nat} {V : Nat → Value → World → Prop} {a0 : Act} {w0 : World} {i : Nat} (h : Turn ops D S F V n a0 w0 i a w) (hA : Ag n a0 L) (L' : List (Nat × Value)) (hsub : SubL L L') (hk : keysOk ops S L' = true) : Ag n a L' :=
  same_ag hA h.size h.defs h.same L' hsub hk

theorem Ag.add (h : Ag n a L) {t : Nat} {v : Value} (e : a.tmps.getD t undef = v) : Ag n a ((t, v) :: L) := by
  refine ⟨h.size, h.defs, fun s x hx => ?_⟩
  simp only [lookupL] at hx
  cases hb : Nat.beq s t
  · rw [hb] at hx; exact h.val s x (by simpa using hx)
  · rw [hb] at hx
    have e' : s = t := Nat.eq_of_beq_eq_true hb
    subst e'
    rw [e]; simpa using hx

/-- What an operation leaves when its turn is over. -/
def Over (F : List Nat) (V : Nat → Value → World → Prop) (i : Nat) (dst : Option Nat) (a : Act) (w : World) (a' : Act) (w' : World) : Prop := ∃ v, a' = a.put dst v ∧ Chg F w w' ∧ (dst.isSome = true → V i v w')

theorem one {D : List (List Nat)} {T : List Nat} {i : Nat} {o : Oper} (ho : ops[i]? = some o) (hchk : (backOk ops && certOk ops D && doneOk D T && waitOk ops D T [i] && apartOk T [i]) = true)
    (h : opK P ops Q o (PR P ops Q (T ++ [i])) a w) : PR P ops Q T a w := by
  simp only [Bool.and_eq_true] at hchk
  obtain ⟨⟨⟨⟨h1, h2⟩, h3⟩, h4⟩, h5⟩ := hchk
  exact PR_one h1 h2 h3 h4 h5 ho h

end ops

def resM (a : Act) : ResultVar → Sem Value
  | .tmp t => pure (a.tmps.getD t undef)
  | .cell s t => do loadVar t (← asAddr (a.tmps.getD s undef))

def ResOf (P : Program) (a : Act) (w : World) (r : ResultVar) (v : Value) : Prop := (resM a r).run P w = .ok v w

def ResAll (P : Program) (a : Act) (w : World) : List ResultVar → List Value → Prop
  | [], [] => True
  | r :: rs, v :: vs => ResOf P a w r v ∧ ResAll P a w rs vs
  | _, _ => False

def resTuple : List Value → Value
  | [v] => v
  | vs => .tuple vs.toArray

theorem res_list {P : Program} {a : Act} {w : World} : ∀ (rs : List ResultVar) (vs acc : List Value), ResAll P a w rs vs →
    (rs.foldlM (fun (bs : Array Value) r => do let b ← resM a r; pure (bs.push b)) acc.toArray).run P w = .ok (acc ++ vs).toArray w
  | [], [], acc, _ => by simp
  | r :: rs, v :: vs, acc, ⟨h1, h2⟩ => by
    have ih := res_list rs vs (acc ++ [v]) h2
    simp only [ResOf] at h1
    simp only [List.foldlM_cons, Sem.run_bind, h1, Result.andThen_ok, Sem.run_pure]
    rw [show acc.toArray.push v = (acc ++ [v]).toArray by simp]
    rw [ih]; simp
  | [], _ :: _, _, h => h.elim
  | _ :: _, [], _, h => h.elim

theorem results_eq (fn : Func) (a : Act) : results fn a.tmps = (do let vs ← fn.results.mapM (resM a); pure (if h : vs.size = 1 then vs[0] else .tuple vs)) := by
  unfold results
  congr 2

theorem res_all {P : Program} {fn : Func} {n : Nat} {a : Act} {L : List (Nat × Value)} {w : World} {rs : List ResultVar} {vs : List Value} {R : Value → World → Prop} (hr : fn.results = rs.toArray) (h : Ag n a L) (hv : ResAll P a w rs vs) (hR : R (resTuple vs) w) :
    bodyPost P fn (Ret R) .ret a w := by
  have hl := res_list rs vs [] hv
  refine ⟨h.defs, _, ?_, hR⟩
  rw [results_eq, hr, Sem.run_bind]
  have e : (rs.toArray.mapM (resM a)).run P w = .ok vs.toArray w := by
    rw [Array.mapM_eq_foldlM]
    simpa using hl
  rw [e]
  simp only [Result.andThen_ok, Sem.run_pure]
  match vs with
  | [] => rfl
  | [v] => rfl
  | _ :: _ :: _ => simp [resTuple]

theorem res_of_tmp {P : Program} {n : Nat} {a : Act} {L : List (Nat × Value)} {w : World} {t : Nat} {v : Value} (h : Ag n a L) (hv : lookupL t L = some v) : ResOf P a w (.tmp t) v := by simp only [ResOf, resM, Sem.run_pure, h.val t v hv]
end

section
open Go.RowKit

theorem enter {P : Program} {f : FuncId} {fn : Func} {c : Code} {w : World} {R : Ending → World → Prop} {n : Nat} (vs : List Value) (hf : P.funcs[f]? = some fn) (hb : fn.body = some c) (hn : fn.ntmps = n) (hle : Nat.ble vs.length n = true)
    (k : ∀ a, Ag n a (enterL 0 vs) → c.wp P (bodyPost P fn R) a w) : Calls P f vs.toArray w R := by
  subst hn
  exact calls_of_wp hf hb (k _ (Ag.enter vs _ hle))

inductive ML (ρ : Operand → Value) : List Operand → List Value → Prop
  | nil : ML ρ [] []
  | cons {x : Operand} {v : Value} {xs : List Operand} {vs : List Value} (h : ρ x = v) (t : ML ρ xs vs) : ML ρ (x :: xs) (v :: vs)

theorem ml_nil {ρ : Operand → Value} : ML ρ [] [] := .nil

theorem ml_cons {ρ : Operand → Value} {x : Operand} {v : Value} {xs : List Operand} {vs : List Value} (h : ρ x = v) (t : ML ρ xs vs) : ML ρ (x :: xs) (v :: vs) := .cons h t

theorem map_arr {ρ : Operand → Value} {xs : List Operand} {vs : List Value} (h : ML ρ xs vs) : xs.toArray.map ρ = vs.toArray := by
  have : xs.map ρ = vs := by induction h with
    | nil => rfl
    | cons h _ ih => simp [h, ih]
  simp [this]

inductive ML2 (ρ : Operand → Value) : List (Nat × Operand) → List (Nat × Value) → Prop
  | nil : ML2 ρ [] []
  | cons {i : Nat} {x : Operand} {v : Value} {xs : List (Nat × Operand)} {vs : List (Nat × Value)} (h : ρ x = v) (t : ML2 ρ xs vs) : ML2 ρ ((i, x) :: xs) ((i, v) :: vs)

theorem map_arr2 {ρ : Operand → Value} {xs : List (Nat × Operand)} {vs : List (Nat × Value)} (h : ML2 ρ xs vs) : (xs.toArray.map fun (i, x) => (i, ρ x)) = vs.toArray := by
  have : (xs.map fun (i, x) => (i, ρ x)) = vs := by induction h with
    | nil => rfl
    | cons h _ ih => simp [h, ih]
  simp [this]

section ops

variable {P : Program} {ops : Array Oper} {Q : Exit → Act → World → Prop} {K : Act → World → Prop} {n : Nat} {a : Act} {w : World} {L : List (Nat × Value)}

instance : Inhabited Sl := ⟨Sl.nil⟩

end ops

theorem b_or_t {x y : Bool} (h : (x || y) = true) : x = true ∨ y = true := by simpa using h

section runs

variable {P : Program} {ρ : Operand → Value} {w : World} {dst : Option Nat} {ty : TypeId} {pos : String} {after : Array Edge} {guard : Option (Nat × Bool)}

theorem run_equal_bool {t : TypeId} (p q : Bool) (ht : P.underlying t = some .bool) (d : Nat) : (Op.equalIn (d + 1) t (.bool p) (.bool q)).run P w = .ok (p == q) w := by
  simp [Op.equalIn, run_underlying ht]

theorem r_beql {t yt : TypeId} {x y : Operand} {p q : Bool} (hx : ρ x = .bool p) (hy : ρ y = .bool q) (ht : P.underlying t = some .bool) :
    (execOp ρ ⟨dst, .binOp .eql t x y yt, ty, pos, after, guard⟩).run P w = .ok (.value (.bool (p == q))) w := by
  have h := run_equal_bool (P := P) (w := w) p q ht 9999
  simp only [execOp, hx, hy, eqGuard_at_bool, binOp, Op.equal, Op.maxDepth, Sem.run_bind, Sem.run_pure, Result.andThen_ok]
  rw [h]; rfl

theorem r_bneq {t yt : TypeId} {x y : Operand} {p q : Bool} (hx : ρ x = .bool p) (hy : ρ y = .bool q) (ht : P.underlying t = some .bool) :
    (execOp ρ ⟨dst, .binOp .neq t x y yt, ty, pos, after, guard⟩).run P w = .ok (.value (.bool (!(p == q)))) w := by
  have h := run_equal_bool (P := P) (w := w) p q ht 9999
  simp only [execOp, hx, hy, eqGuard_at_bool, binOp, Op.equal, Op.maxDepth, Sem.run_bind, Sem.run_pure, Result.andThen_ok]
  rw [h]; rfl

end runs
end

section
open Go.RowKit

section runs

variable {P : Program} {ρ : Operand → Value} {w : World} {dst : Option Nat} {ty : TypeId} {pos : String} {after : Array Edge} {guard : Option (Nat × Bool)}

def EqA (P : Program) (t : TypeId) (xs ys : Array Value) (b : Bool) : Prop := P.eqGuardType P.depth t = false ∧ ∀ w, (Op.equalIn 10000 t (.agg xs) (.agg ys)).run P w = .ok b w

def FE (P : Program) (xs ys : Array Value) (fs : List Field) (b : Bool) : Prop := ∀ w, (Op.eqFields 9999 xs ys fs).run P w = .ok b w

theorem fe_nil (xs ys : Array Value) : FE P xs ys [] true := fun w => by simp [Op.eqFields]

theorem fe_of {xs ys : Array Value} {f : Field} {fs : List Field} {b r : Bool} {u v : Value} (hn : f.name ≠ "_") (hx : ∀ w, (part f.type xs f.offset).run P w = .ok u w) (hy : ∀ w, (part f.type ys f.offset).run P w = .ok v w)
    (he : ∀ w, (Op.equalIn 9999 f.type u v).run P w = .ok r w) (h : FE P xs ys fs b) : FE P xs ys (f :: fs) (r && b) := fun w => by
  simp only [Op.eqFields, if_pos hn, Sem.run_bind, hx, hy, he, Result.andThen_ok]
  cases r
  · simp
  · simp [h w]

theorem run_part1 {xs : Array Value} {t : TypeId} {o : Nat} {v : Value} {d : TypeDesc} (hd : P.underlying t = some d) (hn : notAgg d = true) (hv : xs[o]? = some v) (w : World) : (part t xs o).run P w = .ok v w := by
  simp [part, run_isAgg_no hd hn, hv]

theorem fe_str {xs ys : Array Value} {f : Field} {fs : List Field} {b : Bool} {p q : Str} (hn : f.name ≠ "_") (hd : P.underlying f.type = some .string) (hx : xs[f.offset]? = some (.string (Bs p))) (hy : ys[f.offset]? = some (.string (Bs q))) (h : FE P xs ys fs b) :
    FE P xs ys (f :: fs) (decide (p = q) && b) := by
  refine fe_of hn (run_part1 hd rfl hx) (run_part1 hd rfl hy) (fun w => ?_) h
  rw [run_equalIn_string w 9998 f.type _ _ hd]
  have e : ((Bs p).toList == (Bs q).toList) = decide (p = q) := by
    rw [ByteArray.toList_eq, ByteArray.toList_eq, Bs_data, Bs_data, Bool.eq_iff_iff]; simp
  rw [e]

theorem fe_int {xs ys : Array Value} {f : Field} {fs : List Field} {b : Bool} {k : IntKind} {p q : Int} (hn : f.name ≠ "_") (hd : P.underlying f.type = some (.int k)) (hx : xs[f.offset]? = some (.int k p)) (hy : ys[f.offset]? = some (.int k q)) (h : FE P xs ys fs b) :
    FE P xs ys (f :: fs) (decide (p = q) && b) := by
  refine fe_of hn (run_part1 hd rfl hx) (run_part1 hd rfl hy) (fun w => ?_) h
  rw [run_equalIn_int w 9998 f.type k k p q hd]
  congr 1

theorem fe_bool {xs ys : Array Value} {f : Field} {fs : List Field} {b p q : Bool} (hn : f.name ≠ "_") (hd : P.underlying f.type = some .bool) (hx : xs[f.offset]? = some (.bool p)) (hy : ys[f.offset]? = some (.bool q)) (h : FE P xs ys fs b) :
    FE P xs ys (f :: fs) (decide (p = q) && b) := by
  refine fe_of hn (run_part1 hd rfl hx) (run_part1 hd rfl hy) (fun w => ?_) h
  rw [run_equalIn_bool' w 9998 f.type p q hd]
  congr 1

theorem EqA.of {t : TypeId} {xs ys : Array Value} {fs : List Field} {b c : Bool} (hg : P.eqGuardType P.depth t = false) (ht : P.underlying t = some (.struct (P.fieldsOf t))) (hp : P.stoodInHeld t = false) (hf : (P.fieldsOf t).toList = fs) (h : FE P xs ys fs b) (hc : b = c) : EqA P t xs ys c :=
  ⟨hg, fun w => by rw [show (10000 : Nat) = 9999 + 1 from rfl, run_equalIn_struct w 9999 t xs ys ht hp, hf, h w, hc]⟩

theorem r_aeql {t yt : TypeId} {x y : Operand} {xs ys : Array Value} {b : Bool} (hx : ρ x = .agg xs) (hy : ρ y = .agg ys) (he : EqA P t xs ys b) :
    (execOp ρ ⟨dst, .binOp .eql t x y yt, ty, pos, after, guard⟩).run P w = .ok (.value (.bool b)) w := by
  simp only [execOp, hx, hy, Sem.run_bind, run_eqGuard_agg w .eql t x y xs ys he.1, Result.andThen_ok, run_eql_struct, he.2, Sem.run_pure]

theorem r_aneq {t yt : TypeId} {x y : Operand} {xs ys : Array Value} {b : Bool} (hx : ρ x = .agg xs) (hy : ρ y = .agg ys) (he : EqA P t xs ys b) :
    (execOp ρ ⟨dst, .binOp .neq t x y yt, ty, pos, after, guard⟩).run P w = .ok (.value (.bool (!b))) w := by
  simp only [execOp, hx, hy, Sem.run_bind, run_eqGuard_agg w .neq t x y xs ys he.1, Result.andThen_ok, run_neq_struct, he.2, Sem.run_pure]

end runs

section ops

variable {P : Program} {ops : Array Oper} {Q : Exit → Act → World → Prop} {K : Act → World → Prop} {n : Nat} {a : Act} {w : World} {L : List (Nat × Value)}

end ops
end

section
open Go.RowKit

section

variable {P : Program} {ops : Array Oper} {Q : Exit → Act → World → Prop}

/-- The operations of T have come, of those of Fs some. -/
def PRF (P : Program) (ops : Array Oper) (Q : Exit → Act → World → Prop) (D : List (List Nat)) (T Fs : List Nat) (V : Nat → Value → World → Prop) (a0 : Act) (w0 : World) : Prop :=
  ∀ fuel listed a, Mid D T Fs ops [] V a0 w0 listed a w0 → listed.toList.count false ≤ fuel → wpAny P .any ops Q fuel listed a w0

theorem PRF.congr {D : List (List Nat)} {T Fs : List Nat} {V V' : Nat → Value → World → Prop} {a0 : Act} {w0 : World} (hv : ∀ i ∈ Fs, V i = V' i) (h : PRF P ops Q D T Fs V' a0 w0) : PRF P ops Q D T Fs V a0 w0 :=
  fun fuel listed a hM hcount => h fuel listed a ⟨hM.size, hM.only, hM.old, hM.closed, hM.chg, hM.tsize, hM.defers, hM.same, fun i hi hli t ht => by rw [← hv i hi]; exact hM.vals i hi hli t ht⟩ hcount

variable {n : Nat} {L : List (Nat × Value)}

/-- The block that a value leads to. -/
def blk : Value → Nat
  | .pointer (some a) => a.block
  | .slice (some a) _ _ => a.block
  | _ => 0

end
end

section
open Go.RowKit

section ops

variable {P : Program} {ops : Array Oper} {Q : Exit → Act → World → Prop} {K : Act → World → Prop} {n : Nat} {a : Act} {w : World} {L : List (Nat × Value)}

end ops

section short

variable {P : Program} {ops : Array Oper} {Q : Exit → Act → World → Prop} {n : Nat} {a : Act} {w : World} {L : List (Nat × Value)}

theorem sqv {d : Nat} {op : Op} {ty : TypeId} {pos : String} {after : Array Edge} {v : Value} {w' : World} {rest : List Oper} (hA : Ag n a L) (hd : Nat.blt d n = true)
    (hrun : (execOp a.eval ⟨some d, op, ty, pos, after, none⟩).run P w = .ok (.value v) w')
    (k : ∀ a', Ag n a' ((d, v) :: L) → wpList P ops Q rest a' w') : wpList P ops Q (⟨some d, op, ty, pos, after, none⟩ :: rest) a w :=
  sq (opk_val hA hd hrun fun a' h _ => k a' h)

theorem ovr {d i : Nat} {op : Op} {ty : TypeId} {pos : String} {after : Array Edge} {v : Value} {F : List Nat} {V : Nat → Value → World → Prop} (hA : Ag n a L) (hd : Nat.blt d n = true)
    (hrun : (execOp a.eval ⟨some d, op, ty, pos, after, none⟩).run P w = .ok (.value v) w)
    (hV : (some d).isSome = true → V i v w) : opK P ops Q ⟨some d, op, ty, pos, after, none⟩ (Over F V i (some d) a w) a w :=
  opk_val hA hd hrun fun _ _ e => ⟨_, e, Chg.refl _ _, hV⟩

end short

section ops2

variable {P : Program} {ops : Array Oper} {Q : Exit → Act → World → Prop} {K : Act → World → Prop} {n : Nat} {a : Act} {w : World} {L : List (Nat × Value)}

end ops2

section runs2

variable {P : Program} {ρ : Operand → Value} {w : World} {dst : Option Nat} {ty : TypeId} {pos : String} {after : Array Edge} {guard : Option (Nat × Bool)}

theorem r_nilCheckP {x : Operand} {p : Addr} (hx : ρ x = .pointer (some p)) : (execOp ρ ⟨dst, .nilCheck x, ty, pos, after, guard⟩).run P w = .ok (.value (.pointer (some p))) w := by
  simp [execOp, hx]

theorem r_nilCheckF {x : Operand} {f : FuncId} {fst cap : Array Value} (hx : ρ x = .func (.func f) fst cap) : (execOp ρ ⟨dst, .nilCheck x, ty, pos, after, guard⟩).run P w = .ok (.value (.func (.func f) fst cap)) w := by
  simp [execOp, hx]

theorem r_makeMap {t : TypeId} {v : Value} {w' : World} (hr : (Instr.makeMap t none).run P w = .ok v w') : (execOp ρ ⟨dst, .makeMap t none, ty, pos, after, guard⟩).run P w = .ok (.value v) w' := by
  simp [execOp, hr]

theorem r_makeSlice {t : TypeId} {x y : Operand} {v1 v2 v : Value} {w' : World} (hx : ρ x = v1) (hy : ρ y = v2) (hr : (Instr.makeSlice t v1 v2).run P w = .ok v w') : (execOp ρ ⟨dst, .makeSlice t x y, ty, pos, after, guard⟩).run P w = .ok (.value v) w' := by
  simp [execOp, hx, hy, hr]

theorem r_lookup {t : TypeId} {x y : Operand} {ok : Bool} {v1 v2 v : Value} {w' : World} (hx : ρ x = v1) (hy : ρ y = v2) (hr : (Instr.lookup t v1 v2 ok).run P w = .ok v w') : (execOp ρ ⟨dst, .lookup t x y ok, ty, pos, after, guard⟩).run P w = .ok (.value v) w' := by
  simp [execOp, hx, hy, hr]

/-- A function that has a text. -/
def Body (P : Program) (f : FuncId) : Prop := ∃ fn, P.funcs[f]? = some fn ∧ fn.name ≠ "runtime.NumGoroutine" ∧ fn.body.isSome = true

theorem r_callO {x : Operand} {f : FuncId} {xs : Array Operand} {ts : Array TypeId} {args fst cap : Array Value} (hf : Body P f) (hx : xs.map ρ = args) (hρ : ρ x = .func (.func f) fst cap) :
    (execOp ρ ⟨dst, .call { callee := .value x, args := xs, argTypes := ts }, ty, pos, after, guard⟩).run P w = .ok (.enter f (fst ++ args ++ cap)) w := by
  obtain ⟨fn, h1, h2, h3⟩ := hf
  exact r_callV h1 h2 h3 hx hρ

end runs2

section

variable {P : Program} {ops : Array Oper} {Q : Exit → Act → World → Prop}

end

section

variable {P : Program} {ρ : Operand → Value} {w : World} {dst : Option Nat} {ty : TypeId} {pos : String} {after : Array Edge} {guard : Option (Nat × Bool)}

theorem r_slnil {t yt e : TypeId} {x y : Operand} {s : Sl} (hx : ρ x = s.v) (hy : ρ y = .slice none 0 0) (hu : P.underlying t = some (.slice e)) : (execOp ρ ⟨dst, .binOp .eql t x y yt, ty, pos, after, guard⟩).run P w = .ok (.value (.bool s.a.isNone)) w := by
  have h := Lib.run_eql_slice_nil (P := P) w t e s.a s.n s.c 0 0 hu
  simp only [execOp, hx, hy, Sl.v]
  simp [eqGuard, h, Result.andThen]

theorem r_slnnil {t yt e : TypeId} {x y : Operand} {s : Sl} (hx : ρ x = s.v) (hy : ρ y = .slice none 0 0) (hu : P.underlying t = some (.slice e)) : (execOp ρ ⟨dst, .binOp .neq t x y yt, ty, pos, after, guard⟩).run P w = .ok (.value (.bool (!s.a.isNone))) w := by
  have h := run_neq_slice_nil_any (P := P) w t e s.a s.n s.c 0 0 hu
  simp only [execOp, hx, hy, Sl.v]
  simp [eqGuard, h, Result.andThen]

theorem r_pnil {t yt : TypeId} {x y : Operand} {o : Option Addr} (hx : ρ x = .pointer o) (hy : ρ y = .pointer none) (hu : P.underlying t = some (.pointer (P.pointee t))) : (execOp ρ ⟨dst, .binOp .eql t x y yt, ty, pos, after, guard⟩).run P w = .ok (.value (.bool o.isNone)) w := by
  have h := run_eql_pointer_nil (P := P) w t o hu
  simp only [execOp, hx, hy]
  simp [eqGuard, h, Result.andThen]

theorem r_pnnil {t yt : TypeId} {x y : Operand} {o : Option Addr} (hx : ρ x = .pointer o) (hy : ρ y = .pointer none) (hu : P.underlying t = some (.pointer (P.pointee t))) : (execOp ρ ⟨dst, .binOp .neq t x y yt, ty, pos, after, guard⟩).run P w = .ok (.value (.bool (!o.isNone))) w := by
  have h := run_neq_pointer_nil (P := P) w t o hu
  simp only [execOp, hx, hy]
  simp [eqGuard, h, Result.andThen]

end

section

variable {P : Program} {ρ : Operand → Value} {w : World} {dst : Option Nat} {ty : TypeId} {pos : String} {after : Array Edge} {guard : Option (Nat × Bool)}

theorem r_buildSlice0 {t e : TypeId} {ze : Value} {esize ebytes : Nat} (hu : P.underlying t = some (.slice e)) (he : TI P e ze esize ebytes) :
    (execOp ρ ⟨dst, .buildSlice t 0 #[], ty, pos, after, guard⟩).run P w = .ok (.value (.slice (some ⟨w.heap.size, 0, none⟩) 0 0)) (w.alloc (.cells ([] : List Value).toArray e (0, 0))) := by
  have h1 : ¬ 0 * esize > 2 ^ 24 := by omega
  have h2 : 0 * esize = 0 := by omega
  simp only [execOp, Instr.buildSlice, Sem.run_bind, run_underlying hu, Result.andThen_ok, he.sizeOf w, if_neg h1, if_pos h2, Sem.run_pure]
  have e0 : ∀ f : Nat → Value, (Array.range 0).map f = #[] := fun f => by
    apply Array.ext <;> simp
  simp [Instr.fill, newRow, newObj]
  rw [e0]
  rfl

end

section

variable {P : Program} {ops : Array Oper} {Q : Exit → Act → World → Prop} {n : Nat} {L : List (Nat × Value)}

end

section

variable {P : Program} {ops : Array Oper} {Q : Exit → Act → World → Prop} {K : Act → World → Prop} {n : Nat} {a : Act} {w : World} {L : List (Nat × Value)}

end

section

variable {P : Program} {ρ : Operand → Value} {w : World} {dst : Option Nat} {ty : TypeId} {pos : String} {after : Array Edge} {guard : Option (Nat × Bool)}

theorem r_clear {t : TypeId} {x : Operand} {v1 : Value} {w' : World} (hx : ρ x = v1) (hr : (Builtin.clear_ #[t] ty #[v1]).run P w = .ok (.tuple #[]) w') :
    (execOp ρ ⟨dst, .call { callee := .builtin .clear, args := #[x], argTypes := #[t] }, ty, pos, after, guard⟩).run P w = .ok (.value (.tuple #[])) w' := by
  simp only [execOp, resolve, invoke, builtin, Sem.run_bind, Sem.run_pure, Result.andThen_ok, List.map_toArray, List.map_cons, List.map_nil, hx, hr]

end
end

section
namespace Ev

set_option autoImplicit false

noncomputable section

/-- The value of a cell; q: a number that is r modulo n; a slice: where it begins, its length, a capacity that it has at least, an element's size. -/
inductive AC where
  | b (x : Bool)
  | i (k : IntKind) (n : Int)
  | s (x : List Nat)
  | p (a : Option (Nat × Nat))
  | sl (a : Option (Nat × Nat)) (n c es : Nat)
  | m (a : Option Nat)
  | f (id : Nat) (caps : List (Nat × Nat))
  | nf
  | ni
  | qu (n r : Nat)

/-- A value; u: none. -/
inductive AV where
  | c (x : AC)
  | a (l : List AC)
  | t (l : List (Bool × List AC))
  | u

/-- Slots are told by two of sixteen. -/
inductive S16 where
  | a
  | b
  | c
  | d
  | e
  | f
  | g
  | h
  | i
  | j
  | k
  | l
  | m
  | n
  | o
  | p

inductive N16 (α : Type) where
  | no
  | mk (a0 a1 a2 a3 a4 a5 a6 a7 a8 a9 a10 a11 a12 a13 a14 a15 : α)

structure Slt where
  i : S16
  j : S16

abbrev Fr := N16 (N16 (Option AV))

/-- Who may write to a block: whoever has it; one of those that may be the same block, in their time e; nobody. -/
inductive Lk where
  | own
  | fam (f e : Nat)
  | ro

inductive AO where
  | cells (T : Nat) (c : List AC) (l : Lk)
  | map (e : List (List AC × AC × Nat)) (clock : Nat)

inductive Tr (α : Type) where
  | nil
  | node (v : Option α) (l r : Tr α)

/-- Memory: the next number; the blocks; of those that may be the same one: their time, and the last of them. -/
structure AH where
  nx : Nat
  tr : Tr AO
  fm : Tr (Nat × Nat)

inductive X where
  | t (s : Slt)
  | c (v : AV)

/-- What a part of a struct is that is compared. -/
inductive Kd where
  | s
  | b
  | i (k : IntKind)

inductive I where
  | mv (x : X)
  | pk (c a b : X)
  | nc (x : X)
  | bin (op : BinOp) (x y : X)
  | aeq (neg : Bool) (ks : List Kd) (x y : X)
  | bq (neg : Bool) (x y : X)
  | pq (neg : Bool) (x y : X)
  | sq (neg : Bool) (x y : X)
  | un (op : UnOp) (x : X)
  | cv (k : IntKind) (x : X)
  | b2s (x : X)
  | s2b (T : Nat) (x : X)
  | new (T : Nat) (x : X)
  | bld (z : List AC) (ps : List (Nat × Nat × X))
  | bsl (T es n : Nat) (z : List AC) (ps : List (Nat × Nat × X))
  | ld (n : Nat) (g : Bool) (x : X)
  | st (n : Nat) (x y : X)
  | fa (o : Nat) (x : X)
  | fd (o n : Nat) (g : Bool) (x : X)
  | ia (es : Nat) (x i : X)
  | ip (es n : Nat) (x i : X)
  | sx (x i : X)
  | ix (n es : Nat) (g : Bool) (x i : X)
  | ext (j : Nat) (x : X)
  | len (s : Bool) (x : X)
  | lenc (n : Nat)
  | sls (x : X) (lo hi : Option X)
  | slc (es : Nat) (x : X) (lo hi mx : Option X)
  | slp (es n : Nat) (x : X) (lo hi : Option X)
  | app (T es : Nat) (str : Bool) (x y : X)
  | cp (es : Nat) (str : Bool) (x y : X)
  | mx (x y : X)
  | mn (x y : X)
  | clr (z : List AC) (x : X)
  | ov (x y : X)
  | call (f : Nat) (xs : List X)
  | callv (x : X) (xs : List X)
  | mkf (f : Nat) (xs : List X)
  | mks (T es : Nat) (z : List AC) (x y : X)
  | mkm
  | lkp (ks : List Kd) (z : AC) (x k : X)
  | lko (ks : List Kd) (z : AC) (x k : X)
  | men (ks : List Kd) (z : AC) (x k : X)
  | est (x y z : X)
  | usd (x : X)
  | ustr (x y : X)
  | bad

structure Rq where
  dst : Option Slt
  guard : Option (Slt × Bool)
  i : I

structure R where
  dst : Option Slt
  guard : Option (Slt × Bool)
  i : I
  re : List Rq

inductive C where
  | skip
  | reg (l : List R)
  | dreg (l : List R)
  | seq (a b : C)
  | cond (x : X) (a b : C)
  | blk (id : Nat) (c : C)
  | loop (c : C)
  | exit (id : Nat)
  | ret

structure CF where
  n : Nat
  k : Nat
  c : C
  res : List (Slt × Option (Nat × Bool))

def N16.get0 {α : Type} (d : α) (n : N16 α) : α := N16.rec d (fun x0 _ _ _ _ _ _ _ _ _ _ _ _ _ _ _ => x0) n

def N16.get1 {α : Type} (d : α) (n : N16 α) : α := N16.rec d (fun _ x1 _ _ _ _ _ _ _ _ _ _ _ _ _ _ => x1) n

def N16.get2 {α : Type} (d : α) (n : N16 α) : α := N16.rec d (fun _ _ x2 _ _ _ _ _ _ _ _ _ _ _ _ _ => x2) n

def N16.get3 {α : Type} (d : α) (n : N16 α) : α := N16.rec d (fun _ _ _ x3 _ _ _ _ _ _ _ _ _ _ _ _ => x3) n

def N16.get4 {α : Type} (d : α) (n : N16 α) : α := N16.rec d (fun _ _ _ _ x4 _ _ _ _ _ _ _ _ _ _ _ => x4) n

def N16.get5 {α : Type} (d : α) (n : N16 α) : α := N16.rec d (fun _ _ _ _ _ x5 _ _ _ _ _ _ _ _ _ _ => x5) n

def N16.get6 {α : Type} (d : α) (n : N16 α) : α := N16.rec d (fun _ _ _ _ _ _ x6 _ _ _ _ _ _ _ _ _ => x6) n

def N16.get7 {α : Type} (d : α) (n : N16 α) : α := N16.rec d (fun _ _ _ _ _ _ _ x7 _ _ _ _ _ _ _ _ => x7) n

def N16.get8 {α : Type} (d : α) (n : N16 α) : α := N16.rec d (fun _ _ _ _ _ _ _ _ x8 _ _ _ _ _ _ _ => x8) n

def N16.get9 {α : Type} (d : α) (n : N16 α) : α := N16.rec d (fun _ _ _ _ _ _ _ _ _ x9 _ _ _ _ _ _ => x9) n

def N16.get10 {α : Type} (d : α) (n : N16 α) : α := N16.rec d (fun _ _ _ _ _ _ _ _ _ _ x10 _ _ _ _ _ => x10) n

def N16.get11 {α : Type} (d : α) (n : N16 α) : α := N16.rec d (fun _ _ _ _ _ _ _ _ _ _ _ x11 _ _ _ _ => x11) n

def N16.get12 {α : Type} (d : α) (n : N16 α) : α := N16.rec d (fun _ _ _ _ _ _ _ _ _ _ _ _ x12 _ _ _ => x12) n

def N16.get13 {α : Type} (d : α) (n : N16 α) : α := N16.rec d (fun _ _ _ _ _ _ _ _ _ _ _ _ _ x13 _ _ => x13) n

def N16.get14 {α : Type} (d : α) (n : N16 α) : α := N16.rec d (fun _ _ _ _ _ _ _ _ _ _ _ _ _ _ x14 _ => x14) n

def N16.get15 {α : Type} (d : α) (n : N16 α) : α := N16.rec d (fun _ _ _ _ _ _ _ _ _ _ _ _ _ _ _ x15 => x15) n

def N16.set0 {α : Type} (d v : α) (n : N16 α) : N16 α := N16.rec (.mk v d d d d d d d d d d d d d d d) (fun _ x1 x2 x3 x4 x5 x6 x7 x8 x9 x10 x11 x12 x13 x14 x15 => .mk v x1 x2 x3 x4 x5 x6 x7 x8 x9 x10 x11 x12 x13 x14 x15) n

def N16.set1 {α : Type} (d v : α) (n : N16 α) : N16 α := N16.rec (.mk d v d d d d d d d d d d d d d d) (fun x0 _ x2 x3 x4 x5 x6 x7 x8 x9 x10 x11 x12 x13 x14 x15 => .mk x0 v x2 x3 x4 x5 x6 x7 x8 x9 x10 x11 x12 x13 x14 x15) n

def N16.set2 {α : Type} (d v : α) (n : N16 α) : N16 α := N16.rec (.mk d d v d d d d d d d d d d d d d) (fun x0 x1 _ x3 x4 x5 x6 x7 x8 x9 x10 x11 x12 x13 x14 x15 => .mk x0 x1 v x3 x4 x5 x6 x7 x8 x9 x10 x11 x12 x13 x14 x15) n

def N16.set3 {α : Type} (d v : α) (n : N16 α) : N16 α := N16.rec (.mk d d d v d d d d d d d d d d d d) (fun x0 x1 x2 _ x4 x5 x6 x7 x8 x9 x10 x11 x12 x13 x14 x15 => .mk x0 x1 x2 v x4 x5 x6 x7 x8 x9 x10 x11 x12 x13 x14 x15) n

def N16.set4 {α : Type} (d v : α) (n : N16 α) : N16 α := N16.rec (.mk d d d d v d d d d d d d d d d d) (fun x0 x1 x2 x3 _ x5 x6 x7 x8 x9 x10 x11 x12 x13 x14 x15 => .mk x0 x1 x2 x3 v x5 x6 x7 x8 x9 x10 x11 x12 x13 x14 x15) n

def N16.set5 {α : Type} (d v : α) (n : N16 α) : N16 α := N16.rec (.mk d d d d d v d d d d d d d d d d) (fun x0 x1 x2 x3 x4 _ x6 x7 x8 x9 x10 x11 x12 x13 x14 x15 => .mk x0 x1 x2 x3 x4 v x6 x7 x8 x9 x10 x11 x12 x13 x14 x15) n

def N16.set6 {α : Type} (d v : α) (n : N16 α) : N16 α := N16.rec (.mk d d d d d d v d d d d d d d d d) (fun x0 x1 x2 x3 x4 x5 _ x7 x8 x9 x10 x11 x12 x13 x14 x15 => .mk x0 x1 x2 x3 x4 x5 v x7 x8 x9 x10 x11 x12 x13 x14 x15) n

def N16.set7 {α : Type} (d v : α) (n : N16 α) : N16 α := N16.rec (.mk d d d d d d d v d d d d d d d d) (fun x0 x1 x2 x3 x4 x5 x6 _ x8 x9 x10 x11 x12 x13 x14 x15 => .mk x0 x1 x2 x3 x4 x5 x6 v x8 x9 x10 x11 x12 x13 x14 x15) n

def N16.set8 {α : Type} (d v : α) (n : N16 α) : N16 α := N16.rec (.mk d d d d d d d d v d d d d d d d) (fun x0 x1 x2 x3 x4 x5 x6 x7 _ x9 x10 x11 x12 x13 x14 x15 => .mk x0 x1 x2 x3 x4 x5 x6 x7 v x9 x10 x11 x12 x13 x14 x15) n

def N16.set9 {α : Type} (d v : α) (n : N16 α) : N16 α := N16.rec (.mk d d d d d d d d d v d d d d d d) (fun x0 x1 x2 x3 x4 x5 x6 x7 x8 _ x10 x11 x12 x13 x14 x15 => .mk x0 x1 x2 x3 x4 x5 x6 x7 x8 v x10 x11 x12 x13 x14 x15) n

def N16.set10 {α : Type} (d v : α) (n : N16 α) : N16 α := N16.rec (.mk d d d d d d d d d d v d d d d d) (fun x0 x1 x2 x3 x4 x5 x6 x7 x8 x9 _ x11 x12 x13 x14 x15 => .mk x0 x1 x2 x3 x4 x5 x6 x7 x8 x9 v x11 x12 x13 x14 x15) n

def N16.set11 {α : Type} (d v : α) (n : N16 α) : N16 α := N16.rec (.mk d d d d d d d d d d d v d d d d) (fun x0 x1 x2 x3 x4 x5 x6 x7 x8 x9 x10 _ x12 x13 x14 x15 => .mk x0 x1 x2 x3 x4 x5 x6 x7 x8 x9 x10 v x12 x13 x14 x15) n

def N16.set12 {α : Type} (d v : α) (n : N16 α) : N16 α := N16.rec (.mk d d d d d d d d d d d d v d d d) (fun x0 x1 x2 x3 x4 x5 x6 x7 x8 x9 x10 x11 _ x13 x14 x15 => .mk x0 x1 x2 x3 x4 x5 x6 x7 x8 x9 x10 x11 v x13 x14 x15) n

def N16.set13 {α : Type} (d v : α) (n : N16 α) : N16 α := N16.rec (.mk d d d d d d d d d d d d d v d d) (fun x0 x1 x2 x3 x4 x5 x6 x7 x8 x9 x10 x11 x12 _ x14 x15 => .mk x0 x1 x2 x3 x4 x5 x6 x7 x8 x9 x10 x11 x12 v x14 x15) n

def N16.set14 {α : Type} (d v : α) (n : N16 α) : N16 α := N16.rec (.mk d d d d d d d d d d d d d d v d) (fun x0 x1 x2 x3 x4 x5 x6 x7 x8 x9 x10 x11 x12 x13 _ x15 => .mk x0 x1 x2 x3 x4 x5 x6 x7 x8 x9 x10 x11 x12 x13 v x15) n

def N16.set15 {α : Type} (d v : α) (n : N16 α) : N16 α := N16.rec (.mk d d d d d d d d d d d d d d d v) (fun x0 x1 x2 x3 x4 x5 x6 x7 x8 x9 x10 x11 x12 x13 x14 _ => .mk x0 x1 x2 x3 x4 x5 x6 x7 x8 x9 x10 x11 x12 x13 x14 v) n

def S16.get {α : Type} (s : S16) : α → N16 α → α := S16.rec (motive := fun _ => α → N16 α → α) N16.get0 N16.get1 N16.get2 N16.get3 N16.get4 N16.get5 N16.get6 N16.get7 N16.get8 N16.get9 N16.get10 N16.get11 N16.get12 N16.get13 N16.get14 N16.get15 s

def S16.set {α : Type} (s : S16) : α → α → N16 α → N16 α := S16.rec (motive := fun _ => α → α → N16 α → N16 α) N16.set0 N16.set1 N16.set2 N16.set3 N16.set4 N16.set5 N16.set6 N16.set7 N16.set8 N16.set9 N16.set10 N16.set11 N16.set12 N16.set13 N16.set14 N16.set15 s

def Fr.nil : Fr := .no

def S16.of : Nat → S16
  | 0 => .a
  | 1 => .b
  | 2 => .c
  | 3 => .d
  | 4 => .e
  | 5 => .f
  | 6 => .g
  | 7 => .h
  | 8 => .i
  | 9 => .j
  | 10 => .k
  | 11 => .l
  | 12 => .m
  | 13 => .n
  | 14 => .o
  | _ => .p

def S16.num (s : S16) : Nat := S16.rec 0 1 2 3 4 5 6 7 8 9 10 11 12 13 14 15 s

def Slt.of (t : Nat) : Slt := ⟨S16.of (t / 16), S16.of (t % 16)⟩

def Slt.n (s : Slt) : Nat := 16 * s.i.num + s.j.num

def look (s : Slt) (L : Fr) : Option AV := S16.get s.j none (S16.get s.i .no L)

def putS (L : Fr) (s : Slt) (v : AV) : Fr := S16.set s.i .no (S16.set s.j none (some v) (S16.get s.i .no L)) L

def evX (L : Fr) : X → Option AV
  | .t n => look n L
  | .c v => some v

def Tr.get {α : Type} (t : Tr α) : Nat → Option α := Tr.rec (fun _ => none) (fun v _ _ il ir n => cond (Nat.beq n 0) v (cond (Nat.beq (Nat.mod n 2) 1) (il (Nat.div n 2)) (ir (Nat.sub (Nat.div n 2) 1)))) t

def Tr.setF {α : Type} (fuel : Nat) : Nat → α → Tr α → Tr α := Nat.rec (fun _ _ t => t) (fun _ ih n o t =>
  match t with
  | .nil => cond (Nat.beq n 0) (.node (some o) .nil .nil) (cond (Nat.beq (Nat.mod n 2) 1) (.node none (ih (Nat.div n 2) o .nil) .nil) (.node none .nil (ih (Nat.sub (Nat.div n 2) 1) o .nil)))
  | .node v l r => cond (Nat.beq n 0) (.node (some o) l r) (cond (Nat.beq (Nat.mod n 2) 1) (.node v (ih (Nat.div n 2) o l) r) (.node v l (ih (Nat.sub (Nat.div n 2) 1) o r)))) fuel

def Tr.set {α : Type} (t : Tr α) (n : Nat) (o : α) : Tr α := Tr.setF (Nat.succ n) n o t

def AH.get (H : AH) (n : Nat) : Option AO := H.tr.get n

def AH.set (H : AH) (n : Nat) (o : AO) : AH := ⟨H.nx, H.tr.set n o, H.fm⟩

def AH.push (H : AH) (o : AO) : AH := ⟨Nat.succ H.nx, H.tr.set H.nx o, H.fm⟩

def AH.new (H : AH) (T : Nat) (c : List AC) : AH := H.push (.cells T c .own)

def AH.fset (H : AH) (f e l : Nat) : AH := ⟨H.nx, H.tr, H.fm.set f (e, l)⟩

/-- A block that may still be read. -/
def AH.at (H : AH) (b : Nat) : Option (Nat × List AC × Lk) := match H.get b with
  | some (.cells T c l) => match l with
    | .fam f e => match H.fm.get f with
      | some (e', _) => cond (Nat.beq e e') (some (T, c, l)) none
      | none => none
    | _ => some (T, c, l)
  | _ => none

/-- Cells put over cells from i on; none: beyond the end. -/
def over (l : List AC) : Nat → List AC → Option (List AC) := List.rec (fun i vs => match vs with | [] => cond (Nat.beq i 0) (some []) none | _ => none) (fun x r ih i vs => match i with
  | 0 => match vs with
    | [] => some (x :: r)
    | v :: vs' => match ih 0 vs' with | some r' => some (v :: r') | none => none
  | Nat.succ j => match ih j vs with | some r' => some (x :: r') | none => none) l

def takeN (l : List AC) : Nat → Nat → Option (List AC) := List.rec (fun _ n => cond (Nat.beq n 0) (some []) none) (fun x _ ih i n => match i with
  | 0 => match n with
    | 0 => some []
    | Nat.succ m => match ih 0 m with | some l' => some (x :: l') | none => none
  | Nat.succ j => ih j n) l

def AH.rd (H : AH) (b i n : Nat) : Option (List AC) := match H.at b with
  | some (_, c, _) => takeN c i n
  | none => none

def AH.wr (H : AH) (b i : Nat) (vs : List AC) : Option AH := match H.at b with
  | some (T, c, .own) => match over c i vs with
    | some c' => some (H.set b (.cells T c' .own))
    | none => none
  | some (T, c, .fam f e) => match H.fm.get f with
    | some (_, l) => cond (Nat.beq l b) (match over c i vs with
      | some c' => some ((H.fset f (Nat.succ e) b).set b (.cells T c' (.fam f (Nat.succ e))))
      | none => none) none
    | none => none
  | _ => none

/-- Cells behind a block's last one: they may come there, or to a new block. -/
def AH.ext (H : AH) (T b : Nat) (vs : List AC) : Option AH := match H.at b with
  | some (_, c, .own) => match H.get b with
    | some (.cells T' _ _) => some (((H.set b (.cells T' c (.fam H.nx 0))).fset H.nx 0 H.nx).push (.cells T (c ++ vs) (.fam H.nx 0)))
    | _ => none
  | some (_, c, .fam f e) => match H.fm.get f with
    | some (_, l) => cond (Nat.beq l b) (some ((H.fset f e H.nx).push (.cells T (c ++ vs) (.fam f e)))) none
    | none => none
  | _ => none

def AV.cells : AV → List AC
  | .c x => [x]
  | .a l => l
  | _ => []

def AV.plain : AV → Bool
  | .c _ => true
  | .a _ => true
  | _ => false

def mkV (g : Bool) (l : List AC) : Option AV := match g, l with
  | true, l => some (.a l)
  | false, [x] => some (.c x)
  | _, _ => none

def leqL (l : List Nat) : List Nat → Bool := List.rec (fun r => match r with | [] => true | _ => false) (fun x _ ih r => match r with | [] => false | y :: r' => cond (Nat.beq x y) (ih r') false) l

def lltL (l : List Nat) : List Nat → Bool := List.rec (fun r => match r with | [] => false | _ => true) (fun x _ ih r => match r with | [] => false | y :: r' => cond (Nat.beq x y) (ih r') (Nat.blt x y)) l

def fI (k : IntKind) (n : Int) : Option AV := match n with
  | .ofNat m => some (.c (.i k (.ofNat m)))
  | .negSucc m => some (.c (.i k (.negSucc m)))

def iV (k : IntKind) (n : Int) : Option AV := match k, n with
  | .i64, .ofNat m => cond (Nat.blt m 9223372036854775808) (some (.c (.i .i64 (.ofNat m)))) (fI .i64 (IntKind.wrap .i64 (.ofNat m)))
  | k, n => fI k (IntKind.wrap k n)

def bV (b : Bool) : Option AV := match b with | true => some (.c (.b true)) | false => some (.c (.b false))

def ieq : Int → Int → Bool
  | .ofNat a, .ofNat b => Nat.beq a b
  | .negSucc a, .negSucc b => Nat.beq a b
  | _, _ => false

def ilt : Int → Int → Bool
  | .ofNat a, .ofNat b => Nat.blt a b
  | .negSucc a, .negSucc b => Nat.blt b a
  | .negSucc _, .ofNat _ => true
  | .ofNat _, .negSucc _ => false

def shOk (k : IntKind) (q : Int) : Bool := match q with
  | .ofNat n => Nat.ble n k.bits
  | _ => false

def binI (op : BinOp) (k : IntKind) (p q : Int) : Option AV := match op with
  | .eql => bV (ieq p q)
  | .neq => bV (!ieq p q)
  | .lss => bV (ilt p q)
  | .leq => bV (!ilt q p)
  | .gtr => bV (ilt q p)
  | .geq => bV (!ilt p q)
  | .add => iV k (p + q)
  | .sub => iV k (p - q)
  | .mul => iV k (p * q)
  | .quo => cond (ieq q 0) none (iV k (p.tdiv q))
  | .rem => cond (ieq q 0) none (fI k (p.tmod q))
  | .and => fI k (bits .and k p q)
  | .or => fI k (bits .or k p q)
  | .xor => fI k (bits .xor k p q)
  | .andNot => fI k (bits .andNot k p q)
  | .shr => cond (shOk k q) (fI k (p / 2 ^ q.toNat)) none
  | .shl => cond (shOk k q) (iV k (p * 2 ^ q.toNat)) none

def binS (op : BinOp) (p q : List Nat) : Option AV := match op with
  | .eql => bV (leqL p q)
  | .neq => bV (!leqL p q)
  | .lss => bV (lltL p q)
  | .leq => bV (!lltL q p)
  | .gtr => bV (lltL q p)
  | .geq => bV (!lltL p q)
  | .add => cond (Nat.blt (p.length + q.length) 4294967296) (some (.c (.s (p ++ q)))) none
  | _ => none

def isN {α : Type} : Option α → Bool
  | none => true
  | some _ => false

def binV (op : BinOp) (x y : AV) : Option AV := match x, y with
  | .c (.i k p), .c (.i j q) => match op with
    | .shl => binI .shl k p q
    | .shr => binI .shr k p q
    | op => cond (decide (j = k)) (binI op k p q) none
  | .c (.s p), .c (.s q) => binS op p q
  | _, _ => none

def idx (x : Option AV) : Option Nat := match x with
  | some (.c (.i _ (.ofNat n))) => some n
  | _ => none

def evXs (L : Fr) (xs : List X) : Option (List AV) := List.rec (some []) (fun x _ ih => match evX L x, ih with | some v, some r => some (v :: r) | _, _ => none) xs

/-- Parts (where, how many cells, what) put over cells. -/
def evP (L : Fr) (ps : List (Nat × Nat × X)) : List AC → Option (List AC) := List.rec (fun z => some z) (fun p _ ih z => match evX L p.2.2 with | some v => cond (v.plain && Nat.beq v.cells.length p.2.1) (match over z p.1 v.cells with | some z' => ih z' | none => none) none | none => none) ps

def bound (L : Fr) (x : Option X) (d : Nat) : Option Nat := match x with
  | none => some d
  | some x => idx (evX L x)

def slS (s : List Nat) (lo hi : Nat) : Option AV := cond (Nat.ble lo hi && Nat.ble hi s.length) (some (.c (.s ((s.drop lo).take (Nat.sub hi lo))))) none

def repl (z : List AC) (n : Nat) : List AC := Nat.rec [] (fun _ ih => z ++ ih) n

def u8s (l : List AC) : Option (List Nat) := List.rec (some []) (fun x _ ih => match x with
  | .i .u8 (.ofNat n) => cond (Nat.blt n 256) (match ih with | some r => some (n :: r) | none => none) none
  | _ => none) l

def s8 (s : List Nat) : List AC := s.map fun n => .i .u8 (.ofNat n)

def ceq : Kd → AC → AC → Option Bool
  | .s, .s a, .s b => some (leqL a b)
  | .i k, .i j a, .i j' b => cond (decide (j = k) && decide (j' = k)) (some (ieq a b)) none
  | .b, .b a, .b b => some (a == b)
  | _, _, _ => none

def ceqs (ks : List Kd) : List AC → List AC → Option Bool := List.rec (fun l r => match l, r with | [], [] => some true | _, _ => none) (fun k _ ih l r => match l, r with
  | x :: l', y :: r' => match ceq k x y with
    | some true => ih l' r'
    | some false => (match ih l' r' with | some _ => some false | none => none)
    | none => none
  | _, _ => none) ks

/-- The entry of a key; none: a key that is not told from another one here. -/
def mfind (ks : List Kd) (es : List (List AC × AC × Nat)) (k : List AC) : Option (Option (AC × Nat)) := List.rec (some none) (fun e _ ih => match ceqs ks k e.1 with
  | some true => some (some e.2)
  | some false => ih
  | none => none) es

def mset (es : List (List AC × AC × Nat)) (n : Nat) (v : AC) : Option (List (List AC × AC × Nat)) := List.rec none (fun e r ih => match Nat.beq e.2.2 n with
  | true => some ((e.1, v, n) :: r)
  | false => match ih with | some r' => some (e :: r') | none => none) es

abbrev Run := Nat → List AV → AH → Option (AV × AH)

abbrev Ri := Run → Fr → AH → Option (AV × AH)

def val (H : AH) (v : Option AV) : Option (AV × AH) := match v with | some v => some (v, H) | none => none

def I.mvE (x : X) : Ri := fun _ L H => val H (evX L x)

def I.pkE (c a b : X) : Ri := fun _ L H => match evX L c with
  | some (.c (.b true)) => val H (evX L a)
  | some (.c (.b false)) => val H (evX L b)
  | _ => none

def I.ncE (x : X) : Ri := fun _ L H => match evX L x with
  | some (.c (.p (some a))) => some (.c (.p (some a)), H)
  | some (.c (.f f l)) => some (.c (.f f l), H)
  | _ => none

/-- Two numbers that are of two blocks for certain. -/
def two (H : AH) (p q : Nat) : Bool := match H.at p, H.at q with
  | some (_, _, .own), some (_, _, .own) => true
  | _, _ => false

def peq (H : AH) (p q : Nat × Nat) : Option Bool := cond (Nat.beq p.1 q.1) (some (Nat.beq p.2 q.2)) (cond (two H p.1 q.1) (some false) none)

def I.binE (op : BinOp) (x y : X) : Ri := fun _ L H => match evX L x, evX L y with
  | some p, some v => val H (binV op p v)
  | _, _ => none

def I.bqE (neg : Bool) (x y : X) : Ri := fun _ L H => match evX L x, evX L y with
  | some (.c (.b p)), some (.c (.b q)) => val H (bV ((p == q) != neg))
  | _, _ => none

def I.pqE (neg : Bool) (x y : X) : Ri := fun _ L H => match evX L x, evX L y with
  | some (.c (.p p)), some (.c (.p none)) => val H (bV (isN p != neg))
  | some (.c (.p (some p))), some (.c (.p (some q))) => match peq H p q with
    | some b => val H (bV (b != neg))
    | none => none
  | _, _ => none

def I.sqE (neg : Bool) (x y : X) : Ri := fun _ L H => match evX L x, evX L y with
  | some (.c (.sl p _ _ _)), some (.c (.sl none _ _ _)) => val H (bV (isN p != neg))
  | _, _ => none

def I.aeqE (neg : Bool) (ks : List Kd) (x y : X) : Ri := fun _ L H => match evX L x, evX L y with
  | some (.a l), some (.a r) => match ceqs ks l r with
    | some b => val H (bV (b != neg))
    | none => none
  | _, _ => none

def I.unE (op : UnOp) (x : X) : Ri := fun _ L H => match op, evX L x with
  | .not, some (.c (.b b)) => val H (bV (!b))
  | .neg, some (.c (.i k n)) => val H (iV k (0 - n))
  | .xor, some (.c (.i k n)) => val H (fI k (bits .xor k (if k.signed then -1 else k.max) n))
  | _, _ => none

def I.cvE (k : IntKind) (x : X) : Ri := fun _ L H => match evX L x with
  | some (.c (.i _ n)) => val H (iV k n)
  | _ => none

def I.b2sE (x : X) : Ri := fun _ L H => match evX L x with
  | some (.c (.sl none _ _ _)) => some (.c (.s []), H)
  | some (.c (.sl (some (b, o)) n _ es)) => cond (Nat.beq es 1) (match H.rd b o n with
    | some l => match u8s l with | some s => some (.c (.s s), H) | none => none
    | none => none) none
  | _ => none

def I.s2bE (T : Nat) (x : X) : Ri := fun _ L H => match evX L x with
  | some (.c (.s s)) => some (.c (.sl (some (H.nx, 0)) s.length s.length 1), H.push (.cells T (s8 s) .ro))
  | _ => none

def I.newE (T : Nat) (x : X) : Ri := fun _ L H => match evX L x with
  | some v => cond v.plain (some (.c (.p (some (H.nx, 0))), H.new T v.cells)) none
  | none => none

def I.bldE (z : List AC) (ps : List (Nat × Nat × X)) : Ri := fun _ L H => match evP L ps z with
  | some l => some (.a l, H)
  | none => none

def I.bslE (T es n : Nat) (z : List AC) (ps : List (Nat × Nat × X)) : Ri := fun _ L H => match evP L ps z with
  | some l => some (.c (.sl (some (H.nx, 0)) n n es), H.new T l)
  | none => none

def I.ldE (n : Nat) (g : Bool) (x : X) : Ri := fun _ L H => match evX L x with
  | some (.c (.p (some (b, o)))) => match H.rd b o n with
    | some l => val H (mkV g l)
    | none => none
  | _ => none

def I.stE (n : Nat) (x y : X) : Ri := fun _ L H => match evX L x, evX L y with
  | some (.c (.p (some (b, o)))), some v => cond (v.plain && Nat.beq v.cells.length n) (match H.wr b o v.cells with
    | some H' => some (.u, H')
    | none => none) none
  | _, _ => none

def I.faE (o : Nat) (x : X) : Ri := fun _ L H => match evX L x with
  | some (.c (.p (some (b, i)))) => some (.c (.p (some (b, Nat.add i o))), H)
  | _ => none

def I.fdE (o n : Nat) (g : Bool) (x : X) : Ri := fun _ L H => match evX L x with
  | some (.a l) => match takeN l o n with
    | some l' => val H (mkV g l')
    | none => none
  | _ => none

def I.iaE (es : Nat) (x i : X) : Ri := fun _ L H => match evX L x, idx (evX L i) with
  | some (.c (.sl (some (b, o)) n _ _)), some j => cond (Nat.blt j n) (some (.c (.p (some (b, Nat.add o (Nat.mul j es)))), H)) none
  | _, _ => none

def I.ipE (es n : Nat) (x i : X) : Ri := fun _ L H => match evX L x, idx (evX L i) with
  | some (.c (.p (some (b, o)))), some j => cond (Nat.blt j n) (some (.c (.p (some (b, Nat.add o (Nat.mul j es)))), H)) none
  | _, _ => none

def I.sxE (x i : X) : Ri := fun _ L H => match evX L x, idx (evX L i) with
  | some (.c (.s s)), some j => match s[j]? with
    | some n => some (.c (.i .u8 (.ofNat n)), H)
    | none => none
  | _, _ => none

def I.ixE (n es : Nat) (g : Bool) (x i : X) : Ri := fun _ L H => match evX L x, idx (evX L i) with
  | some (.a l), some j => cond (Nat.blt j n) (match takeN l (Nat.mul j es) es with
    | some l' => val H (mkV g l')
    | none => none) none
  | _, _ => none

def I.extE (j : Nat) (x : X) : Ri := fun _ L H => match evX L x with
  | some (.t l) => match l[j]? with
    | some (g, l') => val H (mkV g l')
    | none => none
  | _ => none

def I.lenE (s : Bool) (x : X) : Ri := fun _ L H => match s, evX L x with
  | false, some (.c (.s s)) => some (.c (.i .i64 (.ofNat s.length)), H)
  | true, some (.c (.sl _ n _ _)) => some (.c (.i .i64 (.ofNat n)), H)
  | _, _ => none

def I.lencE (n : Nat) : Ri := fun _ _ H => some (.c (.i .i64 (.ofNat n)), H)

def I.slsE (x : X) (lo hi : Option X) : Ri := fun _ L H => match evX L x with
  | some (.c (.s s)) => match bound L lo 0, bound L hi s.length with
    | some l, some h => val H (slS s l h)
    | _, _ => none
  | _ => none

def I.slcE (es : Nat) (x : X) (lo hi mx : Option X) : Ri := fun _ L H => match evX L x with
  | some (.c (.sl none n c e)) => match bound L lo 0, bound L hi 0, bound L mx 0 with
    | some 0, some 0, some 0 => some (.c (.sl none n c e), H)
    | _, _, _ => none
  | some (.c (.sl (some (b, o)) n c e)) => match bound L lo 0, bound L hi n, bound L mx c with
    | some l, some h, some m => cond (Nat.ble l h && Nat.ble h m && Nat.ble m c && Nat.beq e es) (some (.c (.sl (some (b, Nat.add o (Nat.mul l es))) (Nat.sub h l) (Nat.sub m l) es), H)) none
    | _, _, _ => none
  | _ => none

def I.slpE (es n : Nat) (x : X) (lo hi : Option X) : Ri := fun _ L H => match evX L x with
  | some (.c (.p (some (b, o)))) => match bound L lo 0, bound L hi n, H.rd b o (Nat.mul n es) with
    | some l, some h, some _ => cond (Nat.ble l h && Nat.ble h n) (some (.c (.sl (some (b, Nat.add o (Nat.mul l es))) (Nat.sub h l) (Nat.sub n l) es), H)) none
    | _, _, _ => none
  | _ => none

/-- What is appended or copied: its cells, how many elements. -/
def srcE (H : AH) (es : Nat) (str : Bool) (mx : Option Nat) (y : AV) : Option (List AC × Nat) := match str, y with
  | true, .c (.s s) => cond (Nat.beq es 1) (match mx with
    | none => some (s8 s, s.length)
    | some k => some (s8 (s.take k), Nat.min s.length k)) none
  | false, .c (.sl none _ _ _) => some ([], 0)
  | false, .c (.sl (some (b, o)) m _ _) => match (match mx with | none => m | some k => Nat.min m k) with
    | j => match H.rd b o (Nat.mul j es) with | some l => some (l, j) | none => none
  | _, _ => none

/-- The cells vs, m elements, behind the n elements of a slice. -/
def appE (T es : Nat) (a : Option (Nat × Nat)) (n c e : Nat) (vs : List AC) (m : Nat) (H : AH) : Option (AV × AH) := match a with
  | none => some (.c (.sl (some (H.nx, 0)) m m es), H.new T vs)
  | some (b, o) => cond (Nat.beq e es) (cond (Nat.ble (Nat.add n m) c)
    (match H.wr b (Nat.add o (Nat.mul n es)) vs with
      | some H' => some (.c (.sl (some (b, o)) (Nat.add n m) c es), H')
      | none => none)
    (match H.at b with
      | some (_, cs, _) => cond (Nat.beq o 0 && Nat.beq (Nat.mul n es) cs.length) (match H.ext T b vs with
        | some H' => some (.c (.sl (some (H.nx, 0)) (Nat.add n m) (Nat.add n m) es), H')
        | none => none) none
      | none => none)) none

def I.appE (T es : Nat) (str : Bool) (x y : X) : Ri := fun _ L H => match evX L x, evX L y with
  | some (.c (.sl a n c e)), some y => match srcE H es str none y with
    | none => none
    | some (vs, m) => cond (Nat.beq m 0) (some (.c (.sl a n c e), H)) (cond (Nat.blt (Nat.add n m) 65536) (Ev.appE T es a n c e vs m H) none)
  | _, _ => none

def I.cpE (es : Nat) (str : Bool) (x y : X) : Ri := fun _ L H => match evX L x, evX L y with
  | some (.c (.sl a n _ _)), some y => match srcE H es str (some n) y with
    | none => none
    | some (vs, m) => cond (Nat.beq m 0) (some (.c (.i .i64 0), H)) (match a with
      | some (b, o) => match H.wr b o vs with
        | some H' => some (.c (.i .i64 (.ofNat m)), H')
        | none => none
      | none => none)
  | _, _ => none

def I.mxE (x y : X) : Ri := fun _ L H => match evX L x, evX L y with
  | some (.c (.i k p)), some (.c (.i j q)) => cond (decide (j = k)) (some (.c (.i k (cond (ilt p q) q p)), H)) none
  | _, _ => none

def I.mnE (x y : X) : Ri := fun _ L H => match evX L x, evX L y with
  | some (.c (.i k p)), some (.c (.i j q)) => cond (decide (j = k)) (some (.c (.i k (cond (ilt q p) q p)), H)) none
  | _, _ => none

def I.clrE (z : List AC) (x : X) : Ri := fun _ L H => match evX L x with
  | some (.c (.sl none _ _ _)) => some (.u, H)
  | some (.c (.sl (some (b, o)) n _ _)) => cond (Nat.beq n 0) (some (.u, H)) (match H.wr b o (repl z n) with
    | some H' => some (.u, H')
    | none => none)
  | _ => none

/-- slices.overlaps: only of slices that share no block, or nothing is in one of them. -/
def I.ovE (x y : X) : Ri := fun _ L H => match evX L x, evX L y with
  | some (.c (.sl a n _ _)), some (.c (.sl b m _ _)) => match n, m with
    | 0, _ => some (.c (.b false), H)
    | _, 0 => some (.c (.b false), H)
    | _, _ => match a, b with
      | some (p, _), some (q, _) => cond (Nat.beq p q) none (cond (two H p q) (some (.c (.b false), H)) none)
      | _, _ => none
  | _, _ => none

def I.callE (f : Nat) (xs : List X) : Ri := fun run L H => match evXs L xs with
  | some vs => run f vs H
  | none => none

def capV (l : List (Nat × Nat)) : List AV := l.map fun p => .c (.p (some p))

def I.callvE (x : X) (xs : List X) : Ri := fun run L H => match evX L x, evXs L xs with
  | some (.c (.f f l)), some vs => run f (vs ++ capV l) H
  | _, _ => none

def ptrs (l : List AV) : Option (List (Nat × Nat)) := List.rec (some []) (fun x _ ih => match x with
  | .c (.p (some p)) => (match ih with | some r => some (p :: r) | none => none)
  | _ => none) l

def I.mkfE (f : Nat) (xs : List X) : Ri := fun _ L H => match evXs L xs with
  | some vs => match ptrs vs with
    | some l => some (.c (.f f l), H)
    | none => none
  | none => none

def I.mksE (T es : Nat) (z : List AC) (x y : X) : Ri := fun _ L H => match idx (evX L x), idx (evX L y) with
  | some n, some c => cond (Nat.ble n c && Nat.blt c 65536) (some (.c (.sl (some (H.nx, 0)) n c es), H.new T (repl z c))) none
  | _, _ => none

def I.mkmE : Ri := fun _ _ H => some (.c (.m (some H.nx)), H.push (.map [] 0))

def mget (ks : List Kd) (H : AH) (b : Nat) (k : List AC) : Option (Option (AC × Nat)) := cond (Nat.beq k.length ks.length) (match H.get b with
  | some (.map es _) => mfind ks es k
  | _ => none) none

def I.lkpE (ks : List Kd) (z : AC) (x k : X) : Ri := fun _ L H => match evX L x, evX L k with
  | some (.c (.m (some b))), some (.a l) => match mget ks H b l with
    | some (some (v, _)) => some (.c v, H)
    | some none => some (.c z, H)
    | none => none
  | _, _ => none

def I.lkoE (ks : List Kd) (z : AC) (x k : X) : Ri := fun _ L H => match evX L x, evX L k with
  | some (.c (.m (some b))), some (.a l) => match mget ks H b l with
    | some (some (v, _)) => some (.t [(false, [v]), (false, [.b true])], H)
    | some none => some (.t [(false, [z]), (false, [.b false])], H)
    | none => none
  | _, _ => none

/-- A new entry; one that is there already is not reckoned. -/
def I.menE (ks : List Kd) (z : AC) (x k : X) : Ri := fun _ L H => match evX L x, evX L k with
  | some (.c (.m (some b))), some (.a l) => match H.get b with
    | some (.map es c) => match mget ks H b l with
      | some none => some (.t [(false, [z]), (false, [.i .i64 (.ofNat c)])], H.set b (.map (es ++ [(l, z, c)]) (Nat.succ c)))
      | _ => none
    | _ => none
  | _, _ => none

def I.estE (x y z : X) : Ri := fun _ L H => match evX L x, idx (evX L y), evX L z with
  | some (.c (.m (some b))), some n, some (.c v) => match H.get b with
    | some (.map es c) => match mset es n v with
      | some es' => some (.u, H.set b (.map es' c))
      | none => none
    | _ => none
  | _, _, _ => none

def I.usdE (x : X) : Ri := fun _ L H => match evX L x with
  | some (.c (.sl none _ _ _)) => some (.c (.p none), H)
  | some (.c (.sl (some a) _ c _)) => cond (Nat.beq c 0) none (some (.c (.p (some a)), H))
  | _ => none

/-- A text of no bytes. -/
def I.ustrE (x y : X) : Ri := fun _ L H => match evX L x, evX L y with
  | some (.c (.p _)), some (.c (.i .i64 (.ofNat 0))) => some (.c (.s []), H)
  | _, _ => none

def I.badE : Ri := fun _ _ _ => none

/-- What an operation yields. -/
def evI (i : I) : Ri := I.rec I.mvE I.pkE I.ncE I.binE I.aeqE I.bqE I.pqE I.sqE I.unE I.cvE I.b2sE I.s2bE I.newE I.bldE I.bslE I.ldE I.stE I.faE I.fdE I.iaE I.ipE I.sxE I.ixE I.extE I.lenE I.lencE I.slsE I.slcE I.slpE I.appE I.cpE I.mxE I.mnE I.clrE I.ovE I.callE I.callvE I.mkfE I.mksE I.mkmE I.lkpE I.lkoE I.menE I.estE I.usdE I.ustrE I.badE i

inductive Ex where
  | norm
  | exit (id : Nat)
  | ret

def putF (L : Fr) (d : Option Slt) (v : AV) : Fr := match d with
  | some d => putS L d v
  | none => L

/-- Is an operation passed by? none: it is not known. -/
def passed (L : Fr) (g : Option (Slt × Bool)) : Option Bool := match g with
  | none => some false
  | some (t, w) => match look t L with
    | some (.c (.b b)) => some (b != w)
    | some .u => some true
    | _ => none

def evR (l : List R) : Run → Fr → AH → Option (Ex × Fr × AH) :=
  List.rec (fun _ L H => some (.norm, L, H)) (fun r _ ih run L H => match passed L r.guard with
    | some true => ih run (putF L r.dst .u) H
    | some false => (match evI r.i run L H with
      | some (v, H') => ih run (putF L r.dst v) H'
      | none => none)
    | none => none) l

def poE : Option (Nat × Nat) → Option (Nat × Nat) → Bool
  | none, none => true
  | some p, some q => Nat.beq p.1 q.1 && Nat.beq p.2 q.2
  | _, _ => false

def capE (l : List (Nat × Nat)) : List (Nat × Nat) → Bool := List.rec (fun r => match r with | [] => true | _ => false) (fun x _ ih r => match r with | [] => false | y :: r' => cond (poE (some x) (some y)) (ih r') false) l

def AC.same : AC → AC → Bool
  | .b x, .b y => x == y
  | .i j x, .i k y => decide (j = k) && ieq x y
  | .s x, .s y => leqL x y
  | .p x, .p y => poE x y
  | .sl x n c e, .sl y n2 c2 e2 => poE x y && Nat.beq n n2 && Nat.beq c c2 && Nat.beq e e2
  | .m none, .m none => true
  | .m (some x), .m (some y) => Nat.beq x y
  | .f k l, .f j r => Nat.beq k j && capE l r
  | .nf, .nf => true
  | .ni, .ni => true
  | _, _ => false

def sameL (l : List AC) : List AC → Bool := List.rec (fun r => match r with | [] => true | _ => false) (fun x _ ih r => match r with | [] => false | y :: r' => cond (x.same y) (ih r') false) l

def AV.same : AV → AV → Bool
  | .c x, .c y => x.same y
  | .a l, .a r => sameL l r
  | _, _ => false

def reOk (l : List Rq) (run : Run) (L : Fr) (H : AH) : Bool := List.rec true (fun r _ ih => match passed L r.guard with
  | some true => ih
  | some false => (match r.dst, evI r.i run L H with
    | some t, some (v, _) => (match look t L with
      | some p => cond (v.same p) ih false
      | none => false)
    | _, _ => false)
  | none => false) l

/-- As evR; each operation comes behind all that do not wait for it. -/
def evD (l : List R) : Run → Fr → AH → Option (Ex × Fr × AH) :=
  List.rec (fun _ L H => some (.norm, L, H)) (fun r _ ih run L H => match passed L r.guard with
    | some true => ih run (putF L r.dst .u) H
    | some false => (match evI r.i run L H with
      | some (v, H') => cond (reOk r.re run (putF L r.dst v) H') (ih run (putF L r.dst v) H') none
      | none => none)
    | none => none) l

abbrev Co := Run → Fr → AH → Option (Ex × Fr × AH)

def seqE (_ _ : C) (ia ib : Co) : Co := fun run L H => match ia run L H with
  | some (.norm, L', H') => ib run L' H'
  | r => r

def condE (x : X) (_ _ : C) (ia ib : Co) : Co := fun run L H => match evX L x with
  | some (.c (.b true)) => ia run L H
  | some (.c (.b false)) => ib run L H
  | _ => none

def blkE (id : Nat) (_ : C) (ic : Co) : Co := fun run L H => match ic run L H with
  | some (.exit j, L', H') => cond (Nat.beq j id) (some (.norm, L', H')) (some (.exit j, L', H'))
  | r => r

/-- More rounds than any loop has. -/
def fuelL : Nat := 100000

def loopN (ic : Co) (run : Run) (k : Nat) : Fr → AH → Option (Ex × Fr × AH) := Nat.rec (fun _ _ => none) (fun _ again L H => match ic run L H with
  | some (.norm, L', H') => again L' H'
  | r => r) k

def loopE (_ : C) (ic : Co) : Co := fun run => loopN ic run fuelL

def evC (c : C) : Co := C.rec (fun _ L H => some (.norm, L, H)) evR evD seqE condE blkE loopE (fun id _ L H => some (.exit id, L, H)) (fun _ L H => some (.ret, L, H)) c

def results (rs : List (Slt × Option (Nat × Bool))) (L : Fr) (H : AH) : Option (List (Bool × List AC)) :=
  List.rec (some []) (fun r _ ih => match look r.1 L, r.2, ih with
    | some (.c x), none, some l => some ((false, [x]) :: l)
    | some (.a x), none, some l => some ((true, x) :: l)
    | some (.c (.p (some (b, o)))), some (n, g), some l => match H.rd b o n with
      | some cs => some ((g, cs) :: l)
      | none => none
    | _, _, _ => none) rs

def enter (vs : List AV) : Nat → Fr := List.rec (fun _ => Fr.nil) (fun v _ ih i => putS (ih (Nat.succ i)) (Slt.of i) v) vs

def resV (l : List (Bool × List AC)) : Option AV := match l with
  | [(g, l)] => mkV g l
  | l => some (.t l)

def outF (cf : CF) : Option (Ex × Fr × AH) → Option (AV × AH)
  | some (.exit _, _, _) => none
  | some (_, L, H') => match results cf.res L H' with
    | some l => val H' (resV l)
    | none => none
  | none => none

def callF (sp : Run) (ft : Nat → Option CF) (ih : Run) : Run := fun f vs H => match ft f with
  | some cf => cond (Nat.ble vs.length cf.n && Nat.ble vs.length cf.k) (outF cf (evC cf.c ih (enter vs 0) H)) none
  | none => sp f vs H

def runF (sp : Run) (ft : Nat → Option CF) (fuel : Nat) : Run := Nat.rec (fun _ _ _ => none) (fun _ ih => callF sp ft ih) fuel

end

end Ev
end

section
namespace Ev

set_option autoImplicit false

inductive All2 {α β : Type} (r : α → β → Prop) : List α → List β → Prop
  | nil : All2 r [] []
  | cons {x : α} {y : β} {xs : List α} {ys : List β} (h : r x y) (t : All2 r xs ys) : All2 r (x :: xs) (y :: ys)

theorem All2.mono {α β : Type} {r r' : α → β → Prop} {xs : List α} {ys : List β} (h : All2 r xs ys) (m : ∀ x y, r x y → r' x y) : All2 r' xs ys := by
  induction h with
  | nil => exact .nil
  | cons h _ ih => exact .cons (m _ _ h) ih

theorem All2.length {α β : Type} {r : α → β → Prop} {xs : List α} {ys : List β} (h : All2 r xs ys) : ys.length = xs.length := by
  induction h with
  | nil => rfl
  | cons _ _ ih => simp [ih]

theorem All2.get {α β : Type} {r : α → β → Prop} {xs : List α} {ys : List β} (h : All2 r xs ys) : ∀ (i : Nat) (x : α), xs[i]? = some x → ∃ y, ys[i]? = some y ∧ r x y := by
  induction h with
  | nil => intro i x h; simp at h
  | cons h _ ih =>
    intro i x hx
    cases i with
    | zero => simp at hx; subst hx; exact ⟨_, by simp, h⟩
    | succ i => simpa using ih i x (by simpa using hx)

theorem All2.append {α β : Type} {r : α → β → Prop} {xs : List α} {ys : List β} {xs' : List α} {ys' : List β} (h : All2 r xs ys) (k : All2 r xs' ys') : All2 r (xs ++ xs') (ys ++ ys') := by
  induction h with
  | nil => exact k
  | cons h _ ih => exact .cons h ih

theorem All2.of_get {α β : Type} {r : α → β → Prop} : ∀ {xs : List α} {ys : List β}, xs.length = ys.length → (∀ (i : Nat) (x : α) (y : β), xs[i]? = some x → ys[i]? = some y → r x y) → All2 r xs ys
  | [], [], _, _ => .nil
  | x :: xs, y :: ys, hl, h => .cons (h 0 x y (by simp) (by simp)) (All2.of_get (by simpa using hl) fun i x' y' hx hy => h (i + 1) x' y' (by simpa using hx) (by simpa using hy))
  | [], _ :: _, hl, _ => by simp at hl
  | _ :: _, [], hl, _ => by simp at hl

/-- The laid table. -/
def WP (w : World) : Prop := Go.Lib.TabIs Tryz.prog w "strings.asciiSpace" .u8 Go.Lib.asciiSpaceTab

/-- A world that is kept, but for the blocks of F. -/
structure W0 where
  w : World
  F : Nat → Prop

def W0.all (w : World) : W0 := ⟨w, fun _ => False⟩

structure Kept (o : W0) (w' : World) : Prop where
  os : w'.os = o.w.os
  tape : w'.tape = o.w.tape
  output : w'.output = o.w.output
  size : o.w.heap.size ≤ w'.heap.size
  block : ∀ k, k < o.w.heap.size → ¬ o.F k → w'.heap[k]? = o.w.heap[k]?

/-- A block that may change. -/
def W0.may (o : W0) (B : Nat) : Prop := o.w.heap.size ≤ B ∨ o.F B

def W0.ok (o : W0) : Prop := WP o.w ∧ ¬ o.F 0

theorem Kept.refl (o : W0) : Kept o o.w := ⟨rfl, rfl, rfl, Nat.le_refl _, fun _ _ _ => rfl⟩

theorem Kept.fresh {o : W0} {w w' : World} {F : List Nat} (h : Kept o w) (k : Chg F w w') (hF : ∀ x ∈ F, o.may x) : Kept o w' :=
  ⟨k.os.trans h.os, k.tape.trans h.tape, k.output.trans h.output, Nat.le_trans h.size k.size,
    fun i hi hn => (k.block i (Nat.lt_of_lt_of_le hi h.size) fun hm => by
      rcases hF i hm with h1 | h1
      · omega
      · exact hn h1).trans (h.block i hi hn)⟩

theorem Kept.trans {o : W0} {w w' : World} (h : Kept o w) (k : Ext w w') : Kept o w' := h.fresh k (by simp)

theorem Kept.ext {w w' : World} (h : Kept (W0.all w) w') : Ext w w' := ⟨h.os, h.tape, h.output, h.size, fun k hk _ => h.block k hk id⟩

/-- Where the numbers' blocks are, and how great. -/
abbrev En := Nat → Option (Nat × Nat)

def En.le (E E' : En) : Prop := ∀ b p, E b = some p → E' b = some p

theorem En.le_refl (E : En) : E.le E := fun _ _ h => h

theorem En.le_trans {A B C : En} (h : A.le B) (k : B.le C) : A.le C := fun b p e => k b p (h b p e)

def En.add (E : En) (b B S : Nat) : En := fun x => if x = b then some (B, S) else E x

theorem En.le_add {E : En} {b B S : Nat} (h : E b = none) : E.le (E.add b B S) := fun x p e => by
  unfold En.add
  by_cases hx : x = b
  · subst hx; rw [h] at e; cases e
  · rw [if_neg hx]; exact e

theorem En.add_same (E : En) (b B S : Nat) : E.add b B S b = some (B, S) := by simp [En.add]

theorem En.add_other (E : En) {b x : Nat} (B S : Nat) (h : x ≠ b) : E.add b B S x = E x := by simp [En.add, h]

def pV (E : En) (p : Nat × Nat) (v : Value) : Prop := ∃ B S, E p.1 = some (B, S) ∧ v = .pointer (some ⟨B, p.2, none⟩)

def AC.v (E : En) : AC → Value → Prop
  | .b x, v => v = .bool x
  | .i k n, v => v = .int k n
  | .s x, v => v = .string (Bs (x.map UInt8.ofNat)) ∧ ∀ n ∈ x, n < 256
  | .p none, v => v = .pointer none
  | .p (some q), v => pV E q v
  | .sl none n c _, v => n = 0 ∧ c = 0 ∧ v = .slice none 0 0
  | .sl (some (y, o)) n c es, v => ∃ B S o' c', E y = some (B, S) ∧ v = .slice (some ⟨B, o', none⟩) n c' ∧ c ≤ c' ∧ n ≤ c' ∧ (c' = 0 ∨ o' = o) ∧ o + c' * es ≤ S
  | .m none, v => v = .map none
  | .m (some y), v => ∃ B S, E y = some (B, S) ∧ v = .map (some B)
  | .f id caps, v => ∃ cs : List Value, v = .func (.func id) #[] cs.toArray ∧ All2 (pV E) caps cs
  | .nf, v => v = .nilFunc
  | .ni, v => v = .nilIface
  | .qu n r, v => ∃ x : Int, v = .int .i64 x ∧ x % (n : Int) = (r : Int)

theorem pV.mono {E E' : En} (h : E.le E') {p : Nat × Nat} {v : Value} : pV E p v → pV E' p v := fun ⟨B, S, h1, h2⟩ => ⟨B, S, h _ _ h1, h2⟩

theorem AC.mono {E E' : En} (h : E.le E') : ∀ {x : AC} {v : Value}, x.v E v → x.v E' v
  | .b _, _, k => k
  | .i _ _, _, k => k
  | .s _, _, k => k
  | .p none, _, k => k
  | .p (some _), _, k => k.mono h
  | .sl none _ _ _, _, k => k
  | .sl (some (_, _)) _ _ _, _, ⟨B, S, o', c', h1, h2⟩ => ⟨B, S, o', c', h _ _ h1, h2⟩
  | .m none, _, k => k
  | .m (some _), _, ⟨B, S, h1, h2⟩ => ⟨B, S, h _ _ h1, h2⟩
  | .f _ _, _, ⟨cs, h1, h2⟩ => ⟨cs, h1, h2.mono fun _ _ => pV.mono h⟩
  | .nf, _, k => k
  | .ni, _, k => k
  | .qu _ _, _, k => k

theorem AC.one {E : En} : ∀ {x : AC} {v : Value}, x.v E v → v.oneCell' = true
  | .b _, _, k => by cases k; rfl
  | .i _ _, _, k => by cases k; rfl
  | .s _, _, k => by rw [k.1]; rfl
  | .p none, _, k => by cases k; rfl
  | .p (some _), _, ⟨_, _, _, k⟩ => by rw [k]; rfl
  | .sl none _ _ _, _, k => by rw [k.2.2]; rfl
  | .sl (some (_, _)) _ _ _, _, ⟨_, _, _, _, _, k, _⟩ => by rw [k]; rfl
  | .m none, _, k => by cases k; rfl
  | .m (some _), _, ⟨_, _, _, k⟩ => by rw [k]; rfl
  | .f _ _, _, ⟨_, k, _⟩ => by rw [k]; rfl
  | .nf, _, k => by cases k; rfl
  | .ni, _, k => by cases k; rfl
  | .qu _ _, _, ⟨_, k, _⟩ => by rw [k]; rfl

abbrev ACs (E : En) : List AC → List Value → Prop := All2 (AC.v E)

theorem ACs.mono {E E' : En} (h : E.le E') {l : List AC} {cs : List Value} (k : ACs E l cs) : ACs E' l cs := All2.mono k fun _ _ => AC.mono h

theorem ACs.one {E : En} {l : List AC} {cs : List Value} (k : ACs E l cs) : ∀ v ∈ cs, v.oneCell' = true := by
  induction k with
  | nil => intro v h; cases h
  | cons h _ ih =>
    intro v hv
    rcases List.mem_cons.1 hv with rfl | hv
    · exact AC.one h
    · exact ih v hv

def gV (E : En) (g : Bool) (l : List AC) (v : Value) : Prop := match g with
  | true => ∃ cs : List Value, v = .agg cs.toArray ∧ ACs E l cs
  | false => ∃ x, l = [x] ∧ x.v E v

def AV.v (E : En) : AV → Value → Prop
  | .c x, v => x.v E v
  | .a l, v => ∃ cs : List Value, v = .agg cs.toArray ∧ ACs E l cs
  | .t l, v => ∃ vs : List Value, v = .tuple vs.toArray ∧ All2 (fun p v => gV E p.1 p.2 v) l vs
  | .u, v => v = undef

theorem gV.mono {E E' : En} (h : E.le E') : ∀ {g : Bool} {l : List AC} {v : Value}, gV E g l v → gV E' g l v
  | true, _, _, ⟨cs, h1, h2⟩ => ⟨cs, h1, h2.mono h⟩
  | false, _, _, ⟨x, h1, h2⟩ => ⟨x, h1, AC.mono h h2⟩

theorem AV.mono {E E' : En} (h : E.le E') : ∀ {x : AV} {v : Value}, x.v E v → x.v E' v
  | .c _, _, k => AC.mono h k
  | .a _, _, ⟨cs, h1, h2⟩ => ⟨cs, h1, h2.mono h⟩
  | .t _, _, ⟨vs, h1, h2⟩ => ⟨vs, h1, h2.mono fun _ _ => gV.mono h⟩
  | .u, _, k => k

theorem AV.cells_of {E : En} : ∀ {x : AV} {v : Value}, x.plain = true → x.v E v → ∃ cs : List Value, v.cells = cs.toArray ∧ ACs E x.cells cs
  | .c x, v, _, h => ⟨[v], by
      have := AC.one h
      cases v <;> first | rfl | (simp [Value.oneCell'] at this), .cons h .nil⟩
  | .a _, _, _, ⟨cs, h1, h2⟩ => ⟨cs, by rw [h1]; rfl, h2⟩

theorem mkV_v {E : En} {g : Bool} {l : List AC} {v : AV} {u : Value} (h : mkV g l = some v) (k : gV E g l u) : v.v E u := by
  cases g with
  | true =>
    simp [mkV] at h; subst h; exact k
  | false =>
    obtain ⟨x, h1, h2⟩ := k
    subst h1
    simp [mkV] at h; subst h; exact h2

theorem Tr.get_setF {α : Type} : ∀ (fuel n m : Nat) (o : α) (t : Tr α), n < fuel → (Tr.setF fuel n o t).get m = if m = n then some o else t.get m
  | 0, _, _, _, _, h => by omega
  | fuel + 1, n, m, o, t, h => by
    have key : ∀ (v : Option α) (l r : Tr α), ((cond (Nat.beq n 0) (.node (some o) l r) (cond (Nat.beq (Nat.mod n 2) 1) (.node v (Tr.setF fuel (Nat.div n 2) o l) r) (.node v l (Tr.setF fuel (Nat.sub (Nat.div n 2) 1) o r))) : Tr α)).get m = if m = n then some o else (Tr.node v l r).get m := by
      intro v l r
      have gn : ∀ (v : Option α) (l r : Tr α), (Tr.node v l r).get m = if m = 0 then v else if m % 2 = 1 then l.get (m / 2) else r.get (m / 2 - 1) := by
        intro v l r
        show cond (Nat.beq m 0) v (cond (Nat.beq (m % 2) 1) (l.get (m / 2)) (r.get (m / 2 - 1))) = _
        by_cases h0 : m = 0
        · subst h0; rfl
        · have e0 : Nat.beq m 0 = false := by cases m <;> simp_all [Nat.beq]
          rw [e0, if_neg h0]
          by_cases h1 : m % 2 = 1
          · rw [h1, if_pos rfl]; rfl
          · have e1 : Nat.beq (m % 2) 1 = false := by
              have : m % 2 = 0 := by omega
              rw [this]; rfl
            rw [e1, if_neg h1]; rfl
      by_cases hn : n = 0
      · subst hn
        show (Tr.node (some o) l r).get m = _
        rw [gn, gn]
        by_cases h0 : m = 0 <;> simp [h0]
      · have e0 : Nat.beq n 0 = false := by cases n <;> simp_all [Nat.beq]
        rw [e0]
        by_cases h1 : n % 2 = 1
        · have e1 : Nat.beq (Nat.mod n 2) 1 = true := by show Nat.beq (n % 2) 1 = true; rw [h1]; rfl
          rw [e1]
          show (Tr.node v (Tr.setF fuel (n / 2) o l) r).get m = _
          rw [gn, gn, Tr.get_setF fuel (n / 2) (m / 2) o l (by omega)]
          by_cases h0 : m = 0
          · rw [if_pos h0, if_pos h0, if_neg (by omega)]
          · rw [if_neg h0, if_neg h0]
            by_cases h2 : m % 2 = 1
            · rw [if_pos h2, if_pos h2]
              by_cases h3 : m = n
              · rw [if_pos h3, if_pos (by omega)]
              · rw [if_neg h3, if_neg (by omega)]
            · rw [if_neg h2, if_neg h2, if_neg (by omega)]
        · have e1 : Nat.beq (Nat.mod n 2) 1 = false := by
            have : n % 2 = 0 := by omega
            show Nat.beq (n % 2) 1 = false; rw [this]; rfl
          rw [e1]
          show (Tr.node v l (Tr.setF fuel (n / 2 - 1) o r)).get m = _
          rw [gn, gn, Tr.get_setF fuel (n / 2 - 1) (m / 2 - 1) o r (by omega)]
          by_cases h0 : m = 0
          · rw [if_pos h0, if_pos h0, if_neg (by omega)]
          · rw [if_neg h0, if_neg h0]
            by_cases h2 : m % 2 = 1
            · rw [if_pos h2, if_pos h2, if_neg (by omega)]
            · rw [if_neg h2, if_neg h2]
              by_cases h3 : m = n
              · rw [if_pos h3, if_pos (by omega)]
              · rw [if_neg h3, if_neg (by omega)]
    cases t with
    | nil =>
      have := key none .nil .nil
      refine this.trans ?_
      have e : (Tr.node (none : Option α) .nil .nil).get m = (Tr.nil : Tr α).get m := by
        show cond (Nat.beq m 0) none (cond (Nat.beq (m % 2) 1) none none) = none
        cases Nat.beq m 0 <;> cases Nat.beq (m % 2) 1 <;> rfl
      rw [e]
    | node v l r => exact key v l r

theorem Tr.get_set {α : Type} (t : Tr α) (n m : Nat) (o : α) : (t.set n o).get m = if m = n then some o else t.get m := Tr.get_setF (n + 1) n m o t (by omega)

theorem AH.get_set (H : AH) (n m : Nat) (o : AO) : (H.set n o).get m = if m = n then some o else H.get m := Tr.get_set _ _ _ _

theorem AH.get_push (H : AH) (m : Nat) (o : AO) : (H.push o).get m = if m = H.nx then some o else H.get m := Tr.get_set _ _ _ _

theorem AH.fm_fset (H : AH) (f e l m : Nat) : (H.fset f e l).fm.get m = if m = f then some (e, l) else H.fm.get m := Tr.get_set _ _ _ _

/-- What `at` says. -/
theorem AH.at_eq {H : AH} {b T : Nat} {c : List AC} {l : Lk} : H.at b = some (T, c, l) ↔ H.get b = some (.cells T c l) ∧ ∀ f e, l = .fam f e → ∃ q, H.fm.get f = some (e, q) := by
  unfold AH.at
  cases hg : H.get b with
  | none => simp
  | some o =>
    cases o with
    | map es cl => simp
    | cells T' c' l' =>
      cases l' with
      | own =>
        constructor
        · intro h; simp at h; obtain ⟨rfl, rfl, rfl⟩ := h; exact ⟨rfl, fun f e h => by cases h⟩
        · rintro ⟨h, _⟩; injection h with h; injection h with h1 h2 h3; subst h1; subst h2; subst h3; rfl
      | ro =>
        constructor
        · intro h; simp at h; obtain ⟨rfl, rfl, rfl⟩ := h; exact ⟨rfl, fun f e h => by cases h⟩
        · rintro ⟨h, _⟩; injection h with h; injection h with h1 h2 h3; subst h1; subst h2; subst h3; rfl
      | fam f e =>
        cases hf : H.fm.get f with
        | none =>
          simp only [hf]
          constructor
          · intro h; cases h
          · rintro ⟨h, k⟩; injection h with h; injection h with h1 h2 h3; subst h3
            obtain ⟨q, hq⟩ := k f e rfl; rw [hf] at hq; cases hq
        | some p =>
          obtain ⟨e', q⟩ := p
          simp only [hf]
          by_cases he : e = e'
          · subst he
            have : Nat.beq e e = true := Nat.beq_refl e
            rw [this]
            constructor
            · intro h; simp at h; obtain ⟨rfl, rfl, rfl⟩ := h
              exact ⟨rfl, fun f' e' h => by injection h with h1 h2; subst h1; subst h2; exact ⟨q, hf⟩⟩
            · rintro ⟨h, _⟩; injection h with h; injection h with h1 h2 h3; subst h1; subst h2; subst h3; rfl
          · have : Nat.beq e e' = false := by
              cases hb : Nat.beq e e' with
              | false => rfl
              | true => exact absurd (Nat.eq_of_beq_eq_true hb) he
            rw [this]
            constructor
            · intro h; simp at h
            · rintro ⟨h, k⟩; injection h with h; injection h with h1 h2 h3; subst h3
              obtain ⟨q', hq⟩ := k f e rfl
              rw [hf] at hq; injection hq with hq; injection hq with h1 h2; exact absurd h1.symm he

end Ev
end

section
namespace Ev

set_option autoImplicit false

theorem takeN_eq : ∀ (c : List AC) (i n : Nat) (l : List AC), takeN c i n = some l → l = (c.drop i).take n ∧ l.length = n
  | [], i, n, l, h => by
    have h : cond (Nat.beq n 0) (some ([] : List AC)) none = some l := h
    cases n with
    | zero => simp at h; subst h; simp
    | succ n => simp [Nat.beq] at h
  | x :: r, 0, 0, l, h => by
    have h : some ([] : List AC) = some l := h
    injection h with h; subst h; simp
  | x :: r, 0, n + 1, l, h => by
    have h : (match takeN r 0 n with | some l' => some (x :: l') | none => none) = some l := h
    cases hr : takeN r 0 n with
    | none => rw [hr] at h; cases h
    | some l' =>
      rw [hr] at h; injection h with h; subst h
      obtain ⟨h1, h2⟩ := takeN_eq r 0 n l' hr
      simp only [List.drop_zero] at h1 ⊢
      exact ⟨by rw [List.take_succ_cons, h1], by simp [h2]⟩
  | x :: r, i + 1, n, l, h => by
    have h : takeN r i n = some l := h
    simpa using takeN_eq r i n l h

theorem takeN_get {c : List AC} {i n : Nat} {l : List AC} (h : takeN c i n = some l) {j : Nat} (hj : j < n) : ∃ x, l[j]? = some x ∧ c[i + j]? = some x := by
  obtain ⟨h1, h2⟩ := takeN_eq c i n l h
  have hl : j < l.length := by omega
  have hx : l[j]? = some l[j] := List.getElem?_eq_getElem hl
  refine ⟨l[j], hx, ?_⟩
  have hy : l[j]? = c[i + j]? := by
    have := congrArg (fun z : List AC => z[j]?) h1
    simp only [List.getElem?_take_of_lt hj, List.getElem?_drop] at this
    exact this
  rw [← hy]; exact hx

theorem over_eq : ∀ (c : List AC) (i : Nat) (vs c' : List AC), over c i vs = some c' → i + vs.length ≤ c.length ∧ c'.length = c.length ∧ ∀ k, c'[k]? = if i ≤ k ∧ k < i + vs.length then vs[k - i]? else c[k]?
  | [], i, [], c', h => by
    have h : cond (Nat.beq i 0) (some ([] : List AC)) none = some c' := h
    cases i with
    | zero => simp at h; subst h; simp
    | succ i => simp [Nat.beq] at h
  | [], i, v :: vs, c', h => by
    have h : (none : Option (List AC)) = some c' := h
    cases h
  | x :: r, 0, [], c', h => by
    have h : some (x :: r) = some c' := h
    injection h with h; subst h
    exact ⟨by simp, rfl, fun k => by rw [if_neg (by simp)]⟩
  | x :: r, 0, v :: vs, c', h => by
    have h : (match over r 0 vs with | some r' => some (v :: r') | none => none) = some c' := h
    cases hr : over r 0 vs with
    | none => rw [hr] at h; cases h
    | some r' =>
      rw [hr] at h; injection h with h; subst h
      obtain ⟨h1, h2, h3⟩ := over_eq r 0 vs r' hr
      refine ⟨by simp at h1 ⊢; omega, by simp [h2], fun k => ?_⟩
      cases k with
      | zero => simp
      | succ k =>
        have := h3 k
        simp only [Nat.zero_le, true_and, Nat.zero_add, Nat.sub_zero, List.length_cons, List.getElem?_cons_succ] at this ⊢
        rw [this]
        by_cases hk : k < vs.length
        · rw [if_pos hk, if_pos (by omega)]
        · rw [if_neg hk, if_neg (by omega)]
  | x :: r, i + 1, vs, c', h => by
    have h : (match over r i vs with | some r' => some (x :: r') | none => none) = some c' := h
    cases hr : over r i vs with
    | none => rw [hr] at h; cases h
    | some r' =>
      rw [hr] at h; injection h with h; subst h
      obtain ⟨h1, h2, h3⟩ := over_eq r i vs r' hr
      refine ⟨by simp only [List.length_cons]; omega, by simp [h2], fun k => ?_⟩
      cases k with
      | zero => rw [if_neg (by omega)]; simp
      | succ k =>
        have := h3 k
        simp only [List.getElem?_cons_succ]
        rw [this]
        by_cases hk : i ≤ k ∧ k < i + vs.length
        · rw [if_pos hk, if_pos (by omega), show k + 1 - (i + 1) = k - i by omega]
        · rw [if_neg hk, if_neg (by omega)]

theorem putAt_get : ∀ (us cs : List Value) (o k : Nat), o + us.length ≤ cs.length → (putAt cs o us)[k]? = if o ≤ k ∧ k < o + us.length then us[k - o]? else cs[k]?
  | [], cs, o, k, _ => by rw [if_neg (by simp only [List.length_nil]; omega)]; rfl
  | u :: us, cs, o, k, h => by
    simp only [List.length_cons] at h ⊢
    show (putAt (cs.set o u) (o + 1) us)[k]? = _
    rw [putAt_get us _ _ k (by simp; omega)]
    by_cases h0 : k = o
    · subst h0
      rw [if_neg (by omega), if_pos (by omega), List.getElem?_set_self (by omega)]; simp
    · by_cases h1 : o + 1 ≤ k ∧ k < o + 1 + us.length
      · rw [if_pos h1, if_pos (by omega), show k - o = (k - (o + 1)) + 1 by omega]; simp
      · rw [if_neg h1, if_neg (by omega), List.getElem?_set_ne (by omega)]

theorem putAt_length : ∀ (us cs : List Value) (o : Nat), (putAt cs o us).length = cs.length
  | [], _, _ => rfl
  | u :: us, cs, o => by
    show (putAt (cs.set o u) (o + 1) us).length = _
    rw [putAt_length us]; simp

/-- The first cells of a block. -/
def Pre (E : En) (c : List AC) (C : List Value) : Prop := ∀ (j : Nat) (x : AC), c[j]? = some x → ∃ v, C[j]? = some v ∧ x.v E v

theorem Pre.mono {E E' : En} (h : E.le E') {c : List AC} {C : List Value} (k : Pre E c C) : Pre E' c C := fun j x hx => by
  obtain ⟨v, h1, h2⟩ := k j x hx; exact ⟨v, h1, AC.mono h h2⟩

theorem Pre.length {E : En} {c : List AC} {C : List Value} (k : Pre E c C) : c.length ≤ C.length := by
  rcases Nat.lt_or_ge C.length c.length with h | h
  · obtain ⟨v, h1, _⟩ := k C.length c[C.length] (List.getElem?_eq_getElem h)
    simp at h1
  · exact h

theorem Pre.all2 {E : En} {c : List AC} {C : List Value} (k : ACs E c C) : Pre E c C := fun j x hx => All2.get k j x hx

theorem Pre.put {E : En} {c c' vs : List AC} {C cs : List Value} {i : Nat} (h : Pre E c C) (hv : ACs E vs cs) (ho : over c i vs = some c') : Pre E c' (putAt C i cs) := fun j x hx => by
  obtain ⟨h1, h2, h3⟩ := over_eq c i vs c' ho
  have hl := All2.length hv
  have hC := h.length
  rw [putAt_get cs C i j (by omega), hl]
  rw [h3 j] at hx
  by_cases hj : i ≤ j ∧ j < i + vs.length
  · rw [if_pos hj] at hx ⊢; exact All2.get hv _ _ hx
  · rw [if_neg hj] at hx ⊢; exact h j x hx

theorem Pre.append {E : En} {c vs : List AC} {C cs : List Value} (h : Pre E c C) (hv : ACs E vs cs) (hl : c.length + cs.length ≤ C.length) : Pre E (c ++ vs) (putAt C c.length cs) := fun j x hx => by
  have hl' := All2.length hv
  rw [putAt_get cs C _ j hl, hl']
  rw [List.getElem?_append] at hx
  by_cases hj : j < c.length
  · rw [if_pos hj] at hx; rw [if_neg (by omega)]; exact h j x hx
  · rw [if_neg hj] at hx
    have hlt : j - c.length < vs.length := by
      rcases Nat.lt_or_ge (j - c.length) vs.length with h | h
      · exact h
      · rw [List.getElem?_eq_none h] at hx; cases hx
    rw [if_pos (by omega)]; exact All2.get hv _ _ hx

theorem Pre.beyond {E : En} {c : List AC} {C cs : List Value} {i : Nat} (h : Pre E c C) (hi : c.length ≤ i) (hl : i + cs.length ≤ C.length) : Pre E c (putAt C i cs) := fun j x hx => by
  have hlt : j < c.length := by
    rcases Nat.lt_or_ge j c.length with h | h
    · exact h
    · rw [List.getElem?_eq_none h] at hx; cases hx
  rw [putAt_get cs C i j hl, if_neg (by omega)]; exact h j x hx

def entR (E : En) (e : List AC × AC × Nat) (m : MapEntry) : Prop := m.born = e.2.2 ∧ e.2.1.v E m.val ∧ gV E true e.1 m.key

theorem entR.mono {E E' : En} (h : E.le E') {e : List AC × AC × Nat} {m : MapEntry} (k : entR E e m) : entR E' e m := ⟨k.1, AC.mono h k.2.1, k.2.2.mono h⟩

/-- May it be read: rows and maps. -/
def live (H : AH) (b : Nat) : Prop := (H.at b).isSome = true ∨ ∃ es c, H.get b = some (.map es c)

/-- The reckoned memory H, at the places E, is the memory w; of w0 nothing has changed. -/
structure HR (E : En) (H : AH) (w0 : W0) (w : World) : Prop where
  wp : w0.ok
  ch : Kept w0 w
  dom : ∀ b p, E b = some p → b < H.nx
  key : ∀ b o, H.get b = some o → b < H.nx
  fkey : ∀ f p, H.fm.get f = some p → f < H.nx
  bf : ∀ b T c f e, H.get b = some (.cells T c (.fam f e)) → ∃ e' q, H.fm.get f = some (e', q) ∧ e ≤ e'
  las : ∀ b T c f e, H.at b = some (T, c, .fam f e) → ∃ q T' c', H.fm.get f = some (e, q) ∧ H.at q = some (T', c', .fam f e) ∧ c.length ≤ c'.length
  cel : ∀ b T c l B S, H.at b = some (T, c, l) → E b = some (B, S) → ∃ (C : List Value) (T' : TypeId) (fz : Nat × Nat), w.heap[B]? = some (.cells C.toArray T' fz) ∧ C.length = S ∧ Pre E c C ∧ (l ≠ .ro → fz = (0, 0) ∧ w0.may B)
  mp : ∀ b es cl B S, H.get b = some (.map es cl) → E b = some (B, S) → w0.may B ∧ ∃ ms : List MapEntry, w.heap[B]? = some (.map ms.toArray cl) ∧ All2 (entR E) es ms
  inj : ∀ b b' B S S', b ≠ b' → E b = some (B, S) → E b' = some (B, S') → live H b → live H b' → ∃ f e T c T' c', H.at b = some (T, c, .fam f e) ∧ H.at b' = some (T', c', .fam f e)

section

variable {E : En} {H : AH} {w0 : W0} {w : World}

theorem HR.free (h : HR E H w0 w) : E H.nx = none := by
  cases he : E H.nx with
  | none => rfl
  | some p => exact absurd (h.dom _ _ he) (Nat.lt_irrefl _)

theorem HR.box {b T : Nat} {c : List AC} {l : Lk} {B S : Nat} (h : HR E H w0 w) (ha : H.at b = some (T, c, l)) (he : E b = some (B, S)) (hl : l ≠ .ro) : ∃ (C : List Value) (T' : TypeId), Box w B T' C ∧ C.length = S ∧ Pre E c C ∧ w0.may B := by
  obtain ⟨C, T', fz, h1, h2, h3, h4⟩ := h.cel b T c l B S ha he
  obtain ⟨rfl, h5⟩ := h4 hl
  exact ⟨C, T', h1, h2, h3, h5⟩

/-- What is read. -/
theorem HR.rd {b o n B S : Nat} {l : List AC} (h : HR E H w0 w) (hr : H.rd b o n = some l) (he : E b = some (B, S)) : ∃ cs : List Value, cs.length = n ∧ ACs E l cs ∧ Cells w ⟨B, o, none⟩ cs := by
  unfold AH.rd at hr
  cases ha : H.at b with
  | none => rw [ha] at hr; cases hr
  | some q =>
    obtain ⟨T, c, lk⟩ := q
    rw [ha] at hr
    have hr : takeN c o n = some l := hr
    obtain ⟨C, T', fz, h1, h2, h3, h4⟩ := h.cel b T c lk B S ha he
    obtain ⟨e1, e2⟩ := takeN_eq c o n l hr
    have hget : ∀ j, j < n → ∃ x v, l[j]? = some x ∧ C[o + j]? = some v ∧ x.v E v := fun j hj => by
      obtain ⟨x, g1, g2⟩ := takeN_get hr hj
      obtain ⟨v, g3, g4⟩ := h3 _ _ g2
      exact ⟨x, v, g1, g3, g4⟩
    have hlen : ((C.drop o).take n).length = n := by
      rw [List.length_take, List.length_drop]
      rcases Nat.eq_zero_or_pos n with h0 | h0
      · omega
      · obtain ⟨x, v, _, g, _⟩ := hget (n - 1) (by omega)
        have := (List.getElem?_eq_some_iff.1 g).1
        omega
    refine ⟨(C.drop o).take n, hlen, All2.of_get (by rw [hlen, e2]) fun i x y hx hy => ?_, fun j v hv => ?_⟩
    · have hi : i < n := by rw [← e2]; exact (List.getElem?_eq_some_iff.1 hx).1
      obtain ⟨x', v', g1, g2, g3⟩ := hget i hi
      rw [hx] at g1; injection g1 with g1; subst g1
      rw [List.getElem?_take_of_lt hi, List.getElem?_drop, g2] at hy
      injection hy with hy; subst hy; exact g3
    · have hj : j < n := by
        have := (List.getElem?_eq_some_iff.1 hv).1
        omega
      rw [List.getElem?_take_of_lt hj, List.getElem?_drop] at hv
      rw [Addr.add_lit]
      simp [World.cell?, h1, hv]

theorem at_push {o : AO} (hk : H.get H.nx = none) (ho : ∀ T c f e, o ≠ .cells T c (.fam f e)) (b : Nat) : (H.push o).at b = if b = H.nx then (match o with | .cells T c l => some (T, c, l) | _ => none) else H.at b := by
  by_cases hb : b = H.nx
  · rw [if_pos hb]
    subst hb
    unfold AH.at
    rw [AH.get_push, if_pos rfl]
    cases o with
    | map es c => rfl
    | cells T c l =>
      cases l with
      | fam f e => exact absurd rfl (ho T c f e)
      | own => rfl
      | ro => rfl
  · rw [if_neg hb]
    unfold AH.at
    rw [AH.get_push, if_neg hb]
    rfl

theorem HR.get_nx (h : HR E H w0 w) : H.get H.nx = none := by
  cases hg : H.get H.nx with
  | none => rfl
  | some o => exact absurd (h.key _ _ hg) (Nat.lt_irrefl _)

/-- A number that is not there yet. -/
theorem HR.push (h : HR E H w0 w) {o : AO} (ho : ∀ T c f e, o ≠ .cells T c (.fam f e)) : HR E (H.push o) w0 w := by
  have hn := h.get_nx
  have hE := h.free
  have hat := at_push hn ho
  have hne : ∀ {b p}, E b = some p → b ≠ H.nx := fun he e => by subst e; rw [hE] at he; cases he
  have hlive : ∀ {b p}, E b = some p → live (H.push o) b → live H b := fun he hl => by
    rcases hl with hl | ⟨es, c, hl⟩
    · rw [hat, if_neg (hne he)] at hl; exact .inl hl
    · rw [AH.get_push, if_neg (hne he)] at hl; exact .inr ⟨es, c, hl⟩
  refine ⟨h.wp, h.ch, fun b p he => Nat.lt_succ_of_lt (h.dom b p he), fun b o' hg => ?_, fun f p hf => Nat.lt_succ_of_lt (h.fkey f p hf), fun b T c f e hg => ?_, fun b T c f e ha => ?_, fun b T c l B S ha he => ?_, fun b es cl B S hg he => ?_, fun b b' B S S' hbb he he' hl hl' => ?_⟩
  · rw [AH.get_push] at hg
    by_cases hb : b = H.nx
    · subst hb; exact Nat.lt_succ_self _
    · rw [if_neg hb] at hg; exact Nat.lt_succ_of_lt (h.key _ _ hg)
  · rw [AH.get_push] at hg
    by_cases hb : b = H.nx
    · rw [if_pos hb] at hg; injection hg with hg; exact absurd hg (ho T c f e)
    · rw [if_neg hb] at hg; exact h.bf b T c f e hg
  · rw [hat] at ha
    by_cases hb : b = H.nx
    · rw [if_pos hb] at ha
      cases o with
      | map es cl => cases ha
      | cells T' c' l' =>
        simp only [Option.some.injEq, Prod.mk.injEq] at ha
        obtain ⟨rfl, rfl, rfl⟩ := ha
        exact absurd rfl (ho _ _ f e)
    · rw [if_neg hb] at ha
      obtain ⟨q, T', c', h1, h2, h3⟩ := h.las b T c f e ha
      have hq : q ≠ H.nx := fun e => by
        subst e
        have := (AH.at_eq.1 h2).1
        rw [hn] at this; cases this
      exact ⟨q, T', c', h1, by rw [hat, if_neg hq]; exact h2, h3⟩
  · rw [hat, if_neg (hne he)] at ha; exact h.cel b T c l B S ha he
  · rw [AH.get_push, if_neg (hne he)] at hg; exact h.mp b es cl B S hg he
  · obtain ⟨f, e, T, c, T', c', h1, h2⟩ := h.inj b b' B S S' hbb he he' (hlive he hl) (hlive he' hl')
    exact ⟨f, e, T, c, T', c', by rw [hat, if_neg (hne he)]; exact h1, by rw [hat, if_neg (hne he')]; exact h2⟩

/-- The world may gain blocks. -/
theorem HR.ext (h : HR E H w0 w) {w' : World} (hc : Ext w w') : HR E H w0 w' := by
  have keep : ∀ {B : Nat} {o : Obj}, w.heap[B]? = some o → w'.heap[B]? = some o := fun hb => by
    rw [hc.block _ (Array.getElem?_eq_some_iff.1 hb).1 (by simp)]; exact hb
  refine ⟨h.wp, h.ch.trans hc, h.dom, h.key, h.fkey, h.bf, h.las, fun b T c l B S ha he => ?_, fun b es cl B S hg he => ?_, h.inj⟩
  · obtain ⟨C, T', fz, h1, h2⟩ := h.cel b T c l B S ha he
    exact ⟨C, T', fz, keep h1, h2⟩
  · obtain ⟨h0, ms, h1, h2⟩ := h.mp b es cl B S hg he
    exact ⟨h0, ms, keep h1, h2⟩

/-- A number's block is made. -/
theorem HR.realZ (h : HR E H w0 w) {b B T T' : Nat} {c : List AC} {lk : Lk} {C : List Value} {w' : World} {fz : Nat × Nat} (hg : H.get b = some (.cells T c lk)) (he : E b = none) (hc : Ext w w') (hB : w.heap.size ≤ B) (hb : w'.heap[B]? = some (.cells C.toArray T' fz)) (hfz : lk ≠ .ro → fz = (0, 0)) (hC : Pre E c C) : HR (E.add b B C.length) H w0 w' := by
  have hle : E.le (E.add b B C.length) := En.le_add he
  have h' := h.ext hc
  have hlt := h.key _ _ hg
  have old : ∀ {x p}, x ≠ b → E.add b B C.length x = some p → E x = some p := fun hx hp => by rwa [En.add_other _ _ _ hx] at hp
  have hap : ∀ {x : Nat} {p : Nat × Nat}, E x = some p → live H x → p.1 ≠ B := fun {x p} hx hl e => by
    subst e
    rcases hl with hl | ⟨es, cl, hl⟩
    · cases ha : H.at x with
      | none => rw [ha] at hl; cases hl
      | some q =>
        obtain ⟨C', T'', fz, h1, _⟩ := h.cel x q.1 q.2.1 q.2.2 p.1 p.2 ha hx
        have := (Array.getElem?_eq_some_iff.1 h1).1
        omega
    · obtain ⟨_, ms, h1, _⟩ := h.mp x es cl p.1 p.2 hl hx
      have := (Array.getElem?_eq_some_iff.1 h1).1
      omega
  refine ⟨h.wp, h'.ch, fun x p hp => ?_, h.key, h.fkey, h.bf, h.las, fun x T c' l B' S ha hp => ?_, fun x es cl B' S hm hp => ?_, fun x y B' S S' hxy hp hq hl hl' => ?_⟩
  · by_cases hx : x = b
    · subst hx; exact hlt
    · exact h.dom x p (old hx hp)
  · by_cases hx : x = b
    · subst hx
      rw [En.add_same] at hp; injection hp with hp; injection hp with h1 h2; subst h1; subst h2
      have := (AH.at_eq.1 ha).1
      rw [hg] at this; injection this with this; injection this with g1 g2 g3; subst g1; subst g2; subst g3
      exact ⟨C, T', fz, hb, rfl, hC.mono hle, fun hr => ⟨hfz hr, .inl (Nat.le_trans h.ch.size hB)⟩⟩
    · obtain ⟨C', T'', fz, h1, h2, h3, h4⟩ := h'.cel x T c' l B' S ha (old hx hp)
      exact ⟨C', T'', fz, h1, h2, h3.mono hle, h4⟩
  · have hx : x ≠ b := fun e => by subst e; rw [hg] at hm; cases hm
    obtain ⟨h0, ms, h1, h2⟩ := h'.mp x es cl B' S hm (old hx hp)
    exact ⟨h0, ms, h1, h2.mono fun _ _ => entR.mono hle⟩
  · by_cases hx : x = b
    · subst hx
      rw [En.add_same] at hp; injection hp with hp; injection hp with h1 h2; subst h1
      exact absurd rfl (hap (old (Ne.symm hxy) hq) hl')
    · by_cases hy : y = b
      · subst hy
        rw [En.add_same] at hq; injection hq with hq; injection hq with h1 h2; subst h1
        exact absurd rfl (hap (old hx hp) hl)
      · exact h.inj x y B' S S' hxy (old hx hp) (old hy hq) hl hl'

theorem HR.real (h : HR E H w0 w) {b B T T' : Nat} {c : List AC} {lk : Lk} {C : List Value} {w' : World} (hg : H.get b = some (.cells T c lk)) (he : E b = none) (hc : Ext w w') (hB : w.heap.size ≤ B) (hb : Box w' B T' C) (hC : Pre E c C) : HR (E.add b B C.length) H w0 w' :=
  h.realZ hg he hc hB hb (fun _ => rfl) hC

end

end Ev
end


end Go.Proofs.YtmmikhhklifjhaaGreatDoor
