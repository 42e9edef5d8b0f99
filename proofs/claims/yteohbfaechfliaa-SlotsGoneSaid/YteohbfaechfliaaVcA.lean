/-
  How a function's code is gone through in this seat: frames known at some slots, worlds that change at few blocks, rules for each form of code. No program is in sight here.
-/
import Derived.WalkKit
import Derived.Carry
import Derived.Lib.Hide
namespace Go.Proofs.Yteohbfaechfliaa
open Go.RowKit

/-! ### Values with names -/

/-- A text as a list of bytes. -/
abbrev Str := List UInt8
def Bs (s : Str) : ByteArray := ⟨s.toArray⟩
theorem Bs_inj {a b : Str} (h : Bs a = Bs b) : a = b := by
  have := congrArg (fun x : ByteArray => x.data.toList) h
  simpa [Bs] using this
theorem Bs_toList (s : ByteArray) : Bs s.data.toList = s := by cases s; simp [Bs]
theorem Bs_size (s : Str) : (Bs s).size = s.length := by simp [Bs, ByteArray.size]
theorem Bs_data (s : Str) : (Bs s).data.toList = s := by simp [Bs]

/-- A slice value. -/
structure Sl where
  a : Option Addr
  n : Nat
  c : Nat
@[reducible] def Sl.v (s : Sl) : Value := .slice s.a s.n s.c
@[reducible] def Sl.nil : Sl := ⟨none, 0, 0⟩

/-! ### Worlds -/

/-- Of the blocks that were there none has changed but, perhaps, those of F. -/
structure Chg (F : List Nat) (w w' : World) : Prop where
  os : w'.os = w.os
  tape : w'.tape = w.tape
  output : w'.output = w.output
  size : w.heap.size ≤ w'.heap.size
  block : ∀ k, k < w.heap.size → k ∉ F → w'.heap[k]? = w.heap[k]?

abbrev Ext (w w' : World) : Prop := Chg [] w w'

theorem Chg.refl (F : List Nat) (w : World) : Chg F w w := ⟨rfl, rfl, rfl, Nat.le_refl _, fun _ _ _ => rfl⟩
theorem Chg.trans {F : List Nat} {a b c : World} (h : Chg F a b) (k : Chg F b c) : Chg F a c :=
  ⟨k.os.trans h.os, k.tape.trans h.tape, k.output.trans h.output, Nat.le_trans h.size k.size,
    fun i hi hF => (k.block i (Nat.lt_of_lt_of_le hi h.size) hF).trans (h.block i hi hF)⟩
theorem Chg.mono {F G : List Nat} {a b : World} (h : Chg F a b) (hs : ∀ x ∈ F, x ∈ G) : Chg G a b :=
  ⟨h.os, h.tape, h.output, h.size, fun i hi hG => h.block i hi fun hF => hG (hs i hF)⟩
theorem Chg.ext {F : List Nat} {a b : World} (h : Ext a b) : Chg F a b := h.mono (by simp)
/-- What is changed was not there at first. -/
theorem Chg.fresh {F : List Nat} {a b c : World} (h : Ext a b) (k : Chg F b c) (hF : ∀ x ∈ F, a.heap.size ≤ x) : Ext a c :=
  ⟨k.os.trans h.os, k.tape.trans h.tape, k.output.trans h.output, Nat.le_trans h.size k.size,
    fun i hi hn => (k.block i (Nat.lt_of_lt_of_le hi h.size) fun hm => by have := hF i hm; omega).trans (h.block i hi hn)⟩
theorem Ext.below {w w' : World} (h : Ext w w') : Below w.heap.size w w' := ⟨h.os, h.tape, h.output, h.size, fun k hk => h.block k hk (by simp)⟩
theorem Ext.of_below {w w' : World} (h : Below w.heap.size w w') : Ext w w' := ⟨h.os, h.tape, h.output, h.size, fun k hk _ => h.block k hk⟩
theorem Chg.cell {F : List Nat} {w w' : World} (h : Chg F w w') {p : Addr} {v : Value} (hc : w.cell? p = some v) (hF : p.block ∉ F) : w'.cell? p = some v := by
  have hb := World.block_lt_of_cell? w p hc
  rw [World.cell?_of_block (w := w) (h.block p.block hb hF)]; exact hc
theorem Ext.cell {w w' : World} (h : Ext w w') {p : Addr} {v : Value} (hc : w.cell? p = some v) : w'.cell? p = some v := Chg.cell h hc (by simp)
theorem Chg.drew {F : List Nat} {a w : World} (h : Chg F a w) : Chg F a w.drew := ⟨h.os, h.tape, h.output, h.size, h.block⟩
theorem Chg.drawn {F : List Nat} {a w : World} (h : Chg F a w) (n : Nat) : Chg F a { w with drawn := n } := ⟨h.os, h.tape, h.output, h.size, h.block⟩
theorem Ext.alloc (w : World) (o : Obj) : Ext w (w.alloc o) := ⟨rfl, rfl, rfl, by simp, fun k hk _ => Below.heap_alloc _ _ _ hk⟩
theorem Chg.setCell (w : World) (p : Addr) (u : Value) : Chg [p.block] w (w.setCell p u) :=
  ⟨rfl, rfl, rfl, by simp [World.setCell], fun k _ hF => Below.heap_setCell _ _ _ _ (by simpa using hF)⟩

/-- A block that is new. -/
structure New (w : World) (B : Nat) (w' : World) : Prop where
  ge : w.heap.size ≤ B
  lt : B < w'.heap.size

/-- Block B holds just these cells of type T, none of them frozen. -/
def Box (w : World) (B : Nat) (T : TypeId) (cs : List Value) : Prop := w.heap[B]? = some (.cells cs.toArray T (0, 0))

theorem Box.lt {w : World} {B : Nat} {T : TypeId} {cs : List Value} (h : Box w B T cs) : B < w.heap.size := (Array.getElem?_eq_some_iff.1 h).1
theorem Box.keep {F : List Nat} {w w' : World} {B : Nat} {T : TypeId} {cs : List Value} (h : Box w B T cs) (c : Chg F w w') (hF : B ∉ F) : Box w' B T cs := (c.block B h.lt hF).trans h
theorem Box.ext {w w' : World} {B : Nat} {T : TypeId} {cs : List Value} (h : Box w B T cs) (c : Ext w w') : Box w' B T cs := h.keep c (by simp)
theorem Box.cell {w : World} {B : Nat} {T : TypeId} {cs : List Value} (h : Box w B T cs) (i : Nat) (v : Value) (hv : cs[i]? = some v) : w.cell? ⟨B, i, none⟩ = some v := by
  unfold Box at h; simp [World.cell?, h, hv]
theorem Box.free {w : World} {B : Nat} {T : TypeId} {cs : List Value} (h : Box w B T cs) (i : Nat) : w.frozen? ⟨B, i, none⟩ = false := by
  unfold Box at h
  simp only [World.frozen?, h, Nat.zero_le, decide_true, Bool.true_and]
  simp
theorem Box.alloc (w : World) (T : TypeId) (cs : List Value) : Box (w.alloc (.cells cs.toArray T (0, 0))) w.heap.size T cs := by
  unfold Box; exact heap_alloc_new w _
theorem Box.setCell {w : World} {B : Nat} {T : TypeId} {cs : List Value} (h : Box w B T cs) (i : Nat) (v : Value) : Box (w.setCell ⟨B, i, none⟩ v) B T (cs.set i v) := by
  unfold Box at *
  simp [World.setCell, Array.getElem?_modify, h]
theorem Box.setCell_other {w : World} {B C : Nat} {T : TypeId} {cs : List Value} (h : Box w B T cs) (i : Nat) (v : Value) (hne : B ≠ C) : Box (w.setCell ⟨C, i, none⟩ v) B T cs :=
  h.keep (Chg.setCell w ⟨C, i, none⟩ v) (by simpa using hne)

/-! ### Frames -/

def lookupL (t : Nat) : List (Nat × Value) → Option Value
  | [] => none
  | (d, v) :: L => bif Nat.beq t d then some v else lookupL t L

/-- A frame of n slots, nothing deferred, with these values in these slots. -/
structure Ag (n : Nat) (a : Act) (L : List (Nat × Value)) : Prop where
  size : a.tmps.size = n
  defs : a.defers = []
  val : ∀ t v, lookupL t L = some v → a.tmps.getD t undef = v

theorem Ag.get {n : Nat} {a : Act} {L : List (Nat × Value)} (h : Ag n a L) {t : Nat} {v : Value} (hv : lookupL t L = some v) : a.eval (.tmp t) = v := h.val t v hv

theorem getD_setIfInBounds_self (xs : Array Value) (d : Nat) (v u : Value) (h : d < xs.size) : (xs.setIfInBounds d v).getD d u = v := by
  simp [Array.getD, h, Array.size_setIfInBounds]
theorem getD_setIfInBounds_ne (xs : Array Value) (d t : Nat) (v u : Value) (h : d ≠ t) : (xs.setIfInBounds d v).getD t u = xs.getD t u := by
  simp [Array.getD_eq_getD_getElem?, Array.getElem?_setIfInBounds_ne h]

theorem Ag.put {n : Nat} {a : Act} {L : List (Nat × Value)} (h : Ag n a L) {d : Nat} (hd : Nat.blt d n = true) (v : Value) : Ag n (a.put (some d) v) ((d, v) :: L) := by
  have hlt : d < n := by simpa [Nat.blt_eq] using hd
  refine ⟨by simp [Act.put, h.size], h.defs, fun t u hu => ?_⟩
  show (a.tmps.setIfInBounds d v).getD t undef = u
  simp only [lookupL] at hu
  by_cases e : t = d
  · subst e
    have hb : Nat.beq t t = true := Nat.beq_refl t
    rw [hb] at hu
    simp at hu
    rw [getD_setIfInBounds_self _ _ _ _ (by rw [h.size]; exact hlt)]
    exact hu
  · have hb : Nat.beq t d = false := by
      cases hh : Nat.beq t d
      · rfl
      · exact absurd (Nat.eq_of_beq_eq_true hh) e
    rw [hb] at hu
    simp at hu
    rw [getD_setIfInBounds_ne _ _ _ _ _ (fun h => e h.symm)]
    exact h.val t u hu

theorem Ag.put_none {n : Nat} {a : Act} {L : List (Nat × Value)} (h : Ag n a L) (v : Value) : Ag n (a.put none v) L := h

/-- What is known at the slots of L' is known of L. -/
def SubL (L : List (Nat × Value)) : List (Nat × Value) → Prop
  | [] => True
  | (d, v) :: L' => lookupL d L = some v ∧ SubL L L'
theorem SubL.look {L : List (Nat × Value)} : ∀ {L' : List (Nat × Value)}, SubL L L' → ∀ t v, lookupL t L' = some v → lookupL t L = some v
  | [], _, t, v, h => by simp [lookupL] at h
  | (d, u) :: L', ⟨h1, h2⟩, t, v, h => by
    simp only [lookupL] at h
    cases hb : Nat.beq t d
    · rw [hb] at h; exact h2.look t v (by simpa using h)
    · rw [hb] at h
      have e : t = d := Nat.eq_of_beq_eq_true hb
      subst e
      rw [h1]; simpa using h
theorem Ag.keep {n : Nat} {a : Act} {L : List (Nat × Value)} (h : Ag n a L) (L' : List (Nat × Value)) (hs : SubL L L') : Ag n a L' :=
  ⟨h.size, h.defs, fun t v hv => h.val t v (hs.look t v hv)⟩
/-- One slot's value is told otherwise. -/
theorem Ag.say {n : Nat} {a : Act} {L : List (Nat × Value)} (h : Ag n a L) {t : Nat} {v : Value} (hv : lookupL t L = some v) (u : Value) (e : v = u) : Ag n a ((t, u) :: L) := by
  refine ⟨h.size, h.defs, fun s x hx => ?_⟩
  simp only [lookupL] at hx
  cases hb : Nat.beq s t
  · rw [hb] at hx; exact h.val s x (by simpa using hx)
  · rw [hb] at hx
    have e' : s = t := Nat.eq_of_beq_eq_true hb
    subst e'
    have := h.val s v hv
    rw [this, e]; simpa using hx

def enterL : Nat → List Value → List (Nat × Value)
  | _, [] => []
  | i, v :: vs => (i, v) :: enterL (i + 1) vs
theorem lookup_enterL (vs : List Value) : ∀ i t v, lookupL t (enterL i vs) = some v → i ≤ t ∧ vs[t - i]? = some v := by
  induction vs with
  | nil => intro i t v h; simp [enterL, lookupL] at h
  | cons u vs ih =>
    intro i t v h
    simp only [enterL, lookupL] at h
    cases hb : Nat.beq t i
    · rw [hb] at h
      obtain ⟨h1, h2⟩ := ih (i + 1) t v (by simpa using h)
      refine ⟨by omega, ?_⟩
      rw [show t - i = (t - (i + 1)) + 1 by omega]
      simpa using h2
    · rw [hb] at h
      have e : t = i := Nat.eq_of_beq_eq_true hb
      subst e
      simp at h
      simp [h]
theorem Ag.enter (vs : List Value) (n : Nat) (hn : Nat.ble vs.length n = true) : Ag n { tmps := vs.toArray ++ Array.replicate (n - vs.toArray.size) undef, defers := [] } (enterL 0 vs) := by
  have hle : vs.length ≤ n := by simpa using hn
  refine ⟨by simp; omega, rfl, fun t v hv => ?_⟩
  obtain ⟨_, h2⟩ := lookup_enterL vs 0 t v hv
  simp only [Nat.sub_zero] at h2
  have hlt : t < vs.length := (List.getElem?_eq_some_iff.1 h2).1
  have e : vs[t] = v := by rw [List.getElem?_eq_getElem hlt] at h2; simpa using h2
  simp [Array.getD_eq_getD_getElem?, Array.getElem?_append, hlt, e]

/-! ### How a call ends -/

/-- It returns, and R holds of what it returns and of the world. -/
def Ret (R : Value → World → Prop) : Ending → World → Prop
  | .returned v, w => R v w
  | _, _ => False

theorem Ret.mono {P : Program} {f : FuncId} {args : Array Value} {w : World} {R R' : Value → World → Prop} (h : Calls P f args w (Ret R)) (hr : ∀ v w', R v w' → R' v w') : Calls P f args w (Ret R') :=
  h.mono fun e w' he => by cases e <;> first | exact hr _ _ he | exact he

/-- In all the blocks of bx nothing has changed. -/
def NoTouch (bx : List Nat) (w w' : World) : Prop := ∀ b ∈ bx, b < w.heap.size → w'.heap[b]? = w.heap[b]?
theorem Chg.noTouch {F : List Nat} {w w' : World} (h : Chg F w w') (bx : List Nat) (hd : ∀ b ∈ bx, b ∉ F) : NoTouch bx w w' := fun b hb hlt => h.block b hlt (hd b hb)
theorem Ext.noTouch {w w' : World} (h : Ext w w') (bx : List Nat) : NoTouch bx w w' := Chg.noTouch h bx (by simp)
theorem Box.kept {bx : List Nat} {w w' : World} {B : Nat} {T : TypeId} {cs : List Value} (h : Box w B T cs) (c : NoTouch bx w w') (hF : B ∈ bx) : Box w' B T cs := (c B hF h.lt).trans h

/-- A call: what it returns, and the world then. The blocks bx are the caller's own. -/
def CallK (P : Program) (f : FuncId) (args : Array Value) (w : World) (bx : List Nat) (K : Value → World → Prop) : Prop :=
  Calls P f args w (Ret fun v w' => NoTouch bx w w' ∧ w.heap.size ≤ w'.heap.size ∧ K v w')

theorem CallK.ext {P : Program} {f : FuncId} {args : Array Value} {w : World} {bx : List Nat} {R K : Value → World → Prop}
    (h : Calls P f args w (Ret fun v w' => Ext w w' ∧ R v w')) (k : ∀ v w', Ext w w' → R v w' → K v w') : CallK P f args w bx K :=
  Ret.mono h fun v w' ⟨he, hr⟩ => ⟨he.noTouch bx, he.size, k v w' he hr⟩
theorem CallK.exact {P : Program} {f : FuncId} {args : Array Value} {w : World} {bx : List Nat} {v0 : Value} {K : Value → World → Prop}
    (h : Calls P f args w (Ret fun v w' => Ext w w' ∧ v = v0)) (k : ∀ w', Ext w w' → K v0 w') : CallK P f args w bx K :=
  CallK.ext h fun _ w' he hv => hv ▸ k w' he
theorem CallK.chg {P : Program} {f : FuncId} {args : Array Value} {w : World} {bx F : List Nat} {R K : Value → World → Prop}
    (h : Calls P f args w (Ret fun v w' => Chg F w w' ∧ R v w')) (hd : ∀ b ∈ bx, b ∉ F) (k : ∀ v w', Chg F w w' → R v w' → K v w') : CallK P f args w bx K :=
  Ret.mono h fun v w' ⟨he, hr⟩ => ⟨he.noTouch bx hd, he.size, k v w' he hr⟩

/-! ### Code -/

section code
variable {P : Program} {Q : Exit → Act → World → Prop} {a : Act} {w : World}

theorem then_normal {K : Act → World → Prop} (h : K a w) : Exit.then K Q .normal a w := h
theorem then_exit {K : Act → World → Prop} {i : Nat} (h : Q (.exit i) a w) : Exit.then K Q (.exit i) a w := h
theorem then_ret {K : Act → World → Prop} (h : Q .ret a w) : Exit.then K Q .ret a w := h
theorem block_normal {id : Nat} (h : Q .normal a w) : Exit.inBlock id Q .normal a w := h
theorem block_hit {id : Nat} (h : Q .normal a w) : Exit.inBlock id Q (.exit id) a w := by simpa [Exit.inBlock] using h
theorem block_miss {id i : Nat} (hne : Nat.beq i id = false) (h : Q (.exit i) a w) : Exit.inBlock id Q (.exit i) a w := by
  have : ¬ i = id := fun e => by subst e; simp at hne
  simpa [Exit.inBlock, this] using h
theorem block_ret {id : Nat} (h : Q .ret a w) : Exit.inBlock id Q .ret a w := h

/-- A point at which ways meet: what is known there, and how it goes on. -/
theorem wp_meet {c : Code} (J : Act → World → Prop) (h : c.wp P (Exit.then J Q) a w) (k : ∀ a w, J a w → Q .normal a w) : c.wp P Q a w :=
  wp_mono h fun e a w hq => by cases e <;> first | exact k _ _ hq | exact hq

/-- A loop, by a relation with a state beside the frame, and a measure of that state. -/
theorem wp_loop_st {c : Code} {σ : Type} (I : σ → Act → World → Prop) (μ : σ → Nat) (s₀ : σ) (h₀ : I s₀ a w)
    (round : ∀ s a w, I s a w → c.wp P (Exit.then (fun a' w' => ∃ s', I s' a' w' ∧ μ s' < μ s) Q) a w) : (Code.loop c).wp P Q a w := by
  classical
  have hex : ∀ a w, (∃ s, I s a w) → ∃ n, ∃ s, I s a w ∧ μ s = n := fun a w ⟨s, hs⟩ => ⟨μ s, s, hs, rfl⟩
  have hleast : ∀ a w, (∃ s, I s a w) → ∃ s, I s a w ∧ ∀ s', I s' a w → μ s ≤ μ s' := by
    intro a w hs
    have key : ∀ n, ∀ s, I s a w → μ s = n → ∃ s, I s a w ∧ ∀ s', I s' a w → μ s ≤ μ s' := by
      intro n
      induction n using Nat.strongRecOn with
      | _ n ih =>
        intro s hs hn
        by_cases hm : ∃ s', I s' a w ∧ μ s' < μ s
        · obtain ⟨s', h1, h2⟩ := hm
          exact ih (μ s') (hn ▸ h2) s' h1 rfl
        · exact ⟨s, hs, fun s' h' => Nat.le_of_not_lt fun hlt => hm ⟨s', h', hlt⟩⟩
    obtain ⟨s, h⟩ := hs
    exact key _ s h rfl
  let m : Act → World → Nat := fun a w => if h : ∃ s, I s a w then μ (hleast a w h).choose else 0
  have hm : ∀ a w s, I s a w → m a w ≤ μ s := by
    intro a w s hs
    have h : ∃ s, I s a w := ⟨s, hs⟩
    show (if h : ∃ s, I s a w then μ (hleast a w h).choose else 0) ≤ μ s
    rw [dif_pos h]
    exact (hleast a w h).choose_spec.2 s hs
  refine wp_loop (fun a w => ∃ s, I s a w) m ⟨s₀, h₀⟩ fun a w hI => ?_
  have hsp := (hleast a w hI).choose_spec
  have e : m a w = μ (hleast a w hI).choose := by
    show (if h : ∃ s, I s a w then μ (hleast a w h).choose else 0) = _
    rw [dif_pos hI]
  refine wp_mono (round _ a w hsp.1) fun x a' w' hq => ?_
  cases x with
  | normal =>
    obtain ⟨s', h1, h2⟩ := hq
    exact ⟨⟨s', h1⟩, by rw [e]; exact Nat.lt_of_le_of_lt (hm a' w' s' h1) h2⟩
  | _ => exact hq

end code

/-! ### Results -/

theorem res_tmp {P : Program} {fn : Func} {n : Nat} {a : Act} {L : List (Nat × Value)} {w : World} {t : Nat} {v : Value} {R : Value → World → Prop} (hr : fn.results = #[.tmp t]) (h : Ag n a L) (hv : lookupL t L = some v) (hR : R v w) :
    bodyPost P fn (Ret R) .ret a w :=
  ⟨h.defs, v, by rw [results_tmp hr, h.val t v hv], hR⟩
theorem res_tmp2 {P : Program} {fn : Func} {n : Nat} {a : Act} {L : List (Nat × Value)} {w : World} {t u : Nat} {x y : Value} {R : Value → World → Prop} (hr : fn.results = #[.tmp t, .tmp u]) (h : Ag n a L) (hx : lookupL t L = some x) (hy : lookupL u L = some y) (hR : R (.tuple #[x, y]) w) :
    bodyPost P fn (Ret R) .ret a w :=
  ⟨h.defs, _, by rw [results_tmp2 hr, h.val t x hx, h.val u y hy], hR⟩
theorem res_tmp3 {P : Program} {fn : Func} {n : Nat} {a : Act} {L : List (Nat × Value)} {w : World} {t u s : Nat} {x y z : Value} {R : Value → World → Prop} (hr : fn.results = #[.tmp t, .tmp u, .tmp s]) (h : Ag n a L) (hx : lookupL t L = some x) (hy : lookupL u L = some y) (hz : lookupL s L = some z) (hR : R (.tuple #[x, y, z]) w) :
    bodyPost P fn (Ret R) .ret a w :=
  ⟨h.defs, .tuple #[x, y, z], by
    have h1 := h.val t x hx
    have h2 := h.val u y hy
    have h3 := h.val s z hz
    simp only [Array.getD_eq_getD_getElem?] at h1 h2 h3
    simp [results, hr, h1, h2, h3], hR⟩
theorem res_none {P : Program} {fn : Func} {n : Nat} {a : Act} {L : List (Nat × Value)} {w : World} {R : Value → World → Prop} (hr : fn.results = #[]) (h : Ag n a L) (hR : R (.tuple #[]) w) :
    bodyPost P fn (Ret R) .ret a w :=
  ⟨h.defs, _, by rw [results_none hr], hR⟩
/-- A body that comes to its end. -/
theorem res_end {P : Program} {fn : Func} {R : Ending → World → Prop} {a : Act} {w : World} (h : bodyPost P fn R .ret a w) : bodyPost P fn R .normal a w := h

end Go.Proofs.Yteohbfaechfliaa
