/-
  What the proof of the statement leans on: texts one behind the other.
-/
import Derived.Test.YtenokfdkckhhiaaGreatDoorRows
import Derived.WalkKit
import Derived.Carry
import Derived.Lib.Hide
import Derived.Laws.Shifts
import Derived.Laws.Cells
import Derived.Orders
import Derived.Laws.AppendOwn
import Derived.Laws.BytesArg
import Derived.Lib.ConvBytes
import Derived.Lib.AppendStr
import Derived.Lib.SlBytesConst
import Derived.ProofKit
import Derived.OpenShut
import Derived.JoinedCond
import Derived.Below
import Derived.ChangeSlices
import Derived.ChangeMaps5
import Derived.Laws.StructEq
import Derived.Laws.Cover3
import Derived.Laws.Externs
import Derived.Lib.Bytealg
import Derived.Scope
import Derived.WalkSpells
import Derived.ChangeKeysEq
namespace Go.Proofs.YtenokfdkckhhiaaGreatDoor
section
open Go.RowKit
abbrev Str := List UInt8
def Bs (s : Str) : ByteArray := ⟨s.toArray⟩
theorem Bs_inj {a b : Str} (h : Bs a = Bs b) : a = b := by
 have := congrArg (fun x : ByteArray => x.data.toList) h
 simpa [Bs] using this
theorem Bs_size (s : Str) : (Bs s).size = s.length := by simp [Bs,ByteArray.size]
theorem Bs_data (s : Str) : (Bs s).data.toList = s := by simp [Bs]
structure Sl where
 a : Option Addr
 n : Nat
 c : Nat
@[reducible] def Sl.v (s : Sl) : Value := .slice s.a s.n s.c
@[reducible] def Sl.nil : Sl := ⟨none,0,0⟩
structure Chg (F : List Nat) (w w' : World) : Prop where
 os : w'.os = w.os
 tape : w'.tape = w.tape
 output : w'.output = w.output
 size : w.heap.size ≤ w'.heap.size
 block : ∀ k,k < w.heap.size → k ∉ F → w'.heap[k]? = w.heap[k]?
abbrev Ext (w w' : World) : Prop := Chg [] w w'
theorem Chg.refl (F : List Nat) (w : World) : Chg F w w := ⟨rfl,rfl,rfl,Nat.le_refl _,fun _ _ _ => rfl⟩
theorem Chg.trans {F : List Nat} {a b c : World} (h : Chg F a b) (k : Chg F b c) : Chg F a c :=
 ⟨k.os.trans h.os,k.tape.trans h.tape,k.output.trans h.output,Nat.le_trans h.size k.size,
  fun i hi hF => (k.block i (Nat.lt_of_lt_of_le hi h.size) hF).trans (h.block i hi hF)⟩
theorem Chg.mono {F G : List Nat} {a b : World} (h : Chg F a b) (hs : ∀ x ∈ F,x ∈ G) : Chg G a b :=
 ⟨h.os,h.tape,h.output,h.size,fun i hi hG => h.block i hi fun hF => hG (hs i hF)⟩
theorem Chg.ext {F : List Nat} {a b : World} (h : Ext a b) : Chg F a b := h.mono (by simp)
theorem Chg.fresh {F : List Nat} {a b c : World} (h : Ext a b) (k : Chg F b c) (hF : ∀ x ∈ F,a.heap.size ≤ x) : Ext a c :=
 ⟨k.os.trans h.os,k.tape.trans h.tape,k.output.trans h.output,Nat.le_trans h.size k.size,
  fun i hi hn => (k.block i (Nat.lt_of_lt_of_le hi h.size) fun hm => by have := hF i hm; omega).trans (h.block i hi hn)⟩
theorem Ext.below {w w' : World} (h : Ext w w') : Below w.heap.size w w' := ⟨h.os,h.tape,h.output,h.size,fun k hk => h.block k hk (by simp)⟩
theorem Ext.of_below {w w' : World} (h : Below w.heap.size w w') : Ext w w' := ⟨h.os,h.tape,h.output,h.size,fun k hk _ => h.block k hk⟩
theorem Chg.cell {F : List Nat} {w w' : World} (h : Chg F w w') {p : Addr} {v : Value} (hc : w.cell? p = some v) (hF : p.block ∉ F) : w'.cell? p = some v := by
 have hb := World.block_lt_of_cell? w p hc
 rw [World.cell?_of_block (w := w) (h.block p.block hb hF)]; exact hc
theorem Ext.cell {w w' : World} (h : Ext w w') {p : Addr} {v : Value} (hc : w.cell? p = some v) : w'.cell? p = some v := Chg.cell h hc (by simp)
theorem Chg.drew {F : List Nat} {a w : World} (h : Chg F a w) : Chg F a w.drew := ⟨h.os,h.tape,h.output,h.size,h.block⟩
theorem Chg.drawn {F : List Nat} {a w : World} (h : Chg F a w) (n : Nat) : Chg F a { w with drawn := n } := ⟨h.os,h.tape,h.output,h.size,h.block⟩
theorem Ext.alloc (w : World) (o : Obj) : Ext w (w.alloc o) := ⟨rfl,rfl,rfl,by simp,fun k hk _ => Below.heap_alloc _ _ _ hk⟩
theorem Chg.setCell (w : World) (p : Addr) (u : Value) : Chg [p.block] w (w.setCell p u) :=
 ⟨rfl,rfl,rfl,by simp [World.setCell],fun k _ hF => Below.heap_setCell _ _ _ _ (by simpa using hF)⟩
structure New (w : World) (B : Nat) (w' : World) : Prop where
 ge : w.heap.size ≤ B
 lt : B < w'.heap.size
def Box (w : World) (B : Nat) (T : TypeId) (cs : List Value) : Prop := w.heap[B]? = some (.cells cs.toArray T (0,0))
theorem Box.lt {w : World} {B : Nat} {T : TypeId} {cs : List Value} (h : Box w B T cs) : B < w.heap.size := (Array.getElem?_eq_some_iff.1 h).1
theorem Box.keep {F : List Nat} {w w' : World} {B : Nat} {T : TypeId} {cs : List Value} (h : Box w B T cs) (c : Chg F w w') (hF : B ∉ F) : Box w' B T cs := (c.block B h.lt hF).trans h
theorem Box.ext {w w' : World} {B : Nat} {T : TypeId} {cs : List Value} (h : Box w B T cs) (c : Ext w w') : Box w' B T cs := h.keep c (by simp)
theorem Box.cell {w : World} {B : Nat} {T : TypeId} {cs : List Value} (h : Box w B T cs) (i : Nat) (v : Value) (hv : cs[i]? = some v) : w.cell? ⟨B,i,none⟩ = some v := by
 unfold Box at h; simp [World.cell?,h,hv]
theorem Box.free {w : World} {B : Nat} {T : TypeId} {cs : List Value} (h : Box w B T cs) (i : Nat) : w.frozen? ⟨B,i,none⟩ = false := by
 unfold Box at h
 simp only [World.frozen?,h,Nat.zero_le,decide_true,Bool.true_and]
 simp
theorem Box.alloc (w : World) (T : TypeId) (cs : List Value) : Box (w.alloc (.cells cs.toArray T (0,0))) w.heap.size T cs := by
 unfold Box; exact heap_alloc_new w _
theorem Box.setCell {w : World} {B : Nat} {T : TypeId} {cs : List Value} (h : Box w B T cs) (i : Nat) (v : Value) : Box (w.setCell ⟨B,i,none⟩ v) B T (cs.set i v) := by
 unfold Box at *
 simp [World.setCell,Array.getElem?_modify,h]
def lookupL (t : Nat) : List (Nat × Value) → Option Value
 |[] => none
 |(d,v) :: L => bif Nat.beq t d then some v else lookupL t L
structure Ag (n : Nat) (a : Act) (L : List (Nat × Value)) : Prop where
 size : a.tmps.size = n
 defs : a.defers = []
 val : ∀ t v,lookupL t L = some v → a.tmps.getD t undef = v
theorem Ag.get {n : Nat} {a : Act} {L : List (Nat × Value)} (h : Ag n a L) {t : Nat} {v : Value} (hv : lookupL t L = some v) : a.eval (.tmp t) = v := h.val t v hv
theorem getD_setIfInBounds_self (xs : Array Value) (d : Nat) (v u : Value) (h : d < xs.size) : (xs.setIfInBounds d v).getD d u = v := by
 simp [Array.getD,h,Array.size_setIfInBounds]
theorem getD_setIfInBounds_ne (xs : Array Value) (d t : Nat) (v u : Value) (h : d ≠ t) : (xs.setIfInBounds d v).getD t u = xs.getD t u := by
 simp [Array.getD_eq_getD_getElem?,Array.getElem?_setIfInBounds_ne h]
theorem Ag.put {n : Nat} {a : Act} {L : List (Nat × Value)} (h : Ag n a L) {d : Nat} (hd : Nat.blt d n = true) (v : Value) : Ag n (a.put (some d) v) ((d,v) :: L) := by
 have hlt : d < n := by simpa [Nat.blt_eq] using hd
 refine ⟨by simp [Act.put,h.size],h.defs,fun t u hu => ?_⟩
 show (a.tmps.setIfInBounds d v).getD t undef = u
 simp only [lookupL] at hu
 by_cases e : t = d
 ·subst e
  have hb : Nat.beq t t = true := Nat.beq_refl t
  rw [hb] at hu
  simp at hu
  rw [getD_setIfInBounds_self _ _ _ _ (by rw [h.size]; exact hlt)]
  exact hu
 ·have hb : Nat.beq t d = false := by
   cases hh : Nat.beq t d
   ·rfl
   ·exact absurd (Nat.eq_of_beq_eq_true hh) e
  rw [hb] at hu
  simp at hu
  rw [getD_setIfInBounds_ne _ _ _ _ _ (fun h => e h.symm)]
  exact h.val t u hu
def SubL (L : List (Nat × Value)) : List (Nat × Value) → Prop
 |[] => True
 |(d,v) :: L' => lookupL d L = some v ∧ SubL L L'
theorem SubL.look {L : List (Nat × Value)} : ∀ {L' : List (Nat × Value)},SubL L L' → ∀ t v,lookupL t L' = some v → lookupL t L = some v
 |[],_,t,v,h => by simp [lookupL] at h
 |(d,u) :: L',⟨h1,h2⟩,t,v,h => by
  simp only [lookupL] at h
  cases hb : Nat.beq t d
  ·rw [hb] at h; exact h2.look t v (by simpa using h)
  ·rw [hb] at h
   have e : t = d := Nat.eq_of_beq_eq_true hb
   subst e
   rw [h1]; simpa using h
theorem Ag.keep {n : Nat} {a : Act} {L : List (Nat × Value)} (h : Ag n a L) (L' : List (Nat × Value)) (hs : SubL L L') : Ag n a L' :=
 ⟨h.size,h.defs,fun t v hv => h.val t v (hs.look t v hv)⟩
def enterL : Nat → List Value → List (Nat × Value)
 |_,[] => []
 |i,v :: vs => (i,v) :: enterL (i + 1) vs
theorem lookup_enterL (vs : List Value) : ∀ i t v,lookupL t (enterL i vs) = some v → i ≤ t ∧ vs[t - i]? = some v := by
 induction vs with
 |nil => intro i t v h; simp [enterL,lookupL] at h
 |cons u vs ih =>
  intro i t v h
  simp only [enterL,lookupL] at h
  cases hb : Nat.beq t i
  ·rw [hb] at h
   obtain ⟨h1,h2⟩ := ih (i + 1) t v (by simpa using h)
   refine ⟨by omega,?_⟩
   rw [show t - i = (t - (i + 1)) + 1 by omega]
   simpa using h2
  ·rw [hb] at h
   have e : t = i := Nat.eq_of_beq_eq_true hb
   subst e
   simp at h
   simp [h]
theorem Ag.enter (vs : List Value) (n : Nat) (hn : Nat.ble vs.length n = true) : Ag n { tmps := vs.toArray ++ Array.replicate (n - vs.toArray.size) undef,defers := [] } (enterL 0 vs) := by
 have hle : vs.length ≤ n := by simpa using hn
 refine ⟨by simp; omega,rfl,fun t v hv => ?_⟩
 obtain ⟨_,h2⟩ := lookup_enterL vs 0 t v hv
 simp only [Nat.sub_zero] at h2
 have hlt : t < vs.length := (List.getElem?_eq_some_iff.1 h2).1
 have e : vs[t] = v := by rw [List.getElem?_eq_getElem hlt] at h2; simpa using h2
 simp [Array.getD_eq_getD_getElem?,Array.getElem?_append,hlt,e]
def Ret (R : Value → World → Prop) : Ending → World → Prop
 |.returned v,w => R v w
 |_,_ => False
theorem Ret.mono {P : Program} {f : FuncId} {args : Array Value} {w : World} {R R' : Value → World → Prop} (h : Calls P f args w (Ret R)) (hr : ∀ v w',R v w' → R' v w') : Calls P f args w (Ret R') :=
 h.mono fun e w' he => by cases e <;> first | exact hr _ _ he | exact he
def NoTouch (bx : List Nat) (w w' : World) : Prop := ∀ b ∈ bx,b < w.heap.size → w'.heap[b]? = w.heap[b]?
theorem Chg.noTouch {F : List Nat} {w w' : World} (h : Chg F w w') (bx : List Nat) (hd : ∀ b ∈ bx,b ∉ F) : NoTouch bx w w' := fun b hb hlt => h.block b hlt (hd b hb)
theorem Ext.noTouch {w w' : World} (h : Ext w w') (bx : List Nat) : NoTouch bx w w' := Chg.noTouch h bx (by simp)
theorem Box.kept {bx : List Nat} {w w' : World} {B : Nat} {T : TypeId} {cs : List Value} (h : Box w B T cs) (c : NoTouch bx w w') (hF : B ∈ bx) : Box w' B T cs := (c B hF h.lt).trans h
def CallK (P : Program) (f : FuncId) (args : Array Value) (w : World) (bx : List Nat) (K : Value → World → Prop) : Prop :=
 Calls P f args w (Ret fun v w' => NoTouch bx w w' ∧ w.heap.size ≤ w'.heap.size ∧ K v w')
theorem CallK.ext {P : Program} {f : FuncId} {args : Array Value} {w : World} {bx : List Nat} {R K : Value → World → Prop}
  (h : Calls P f args w (Ret fun v w' => Ext w w' ∧ R v w')) (k : ∀ v w',Ext w w' → R v w' → K v w') : CallK P f args w bx K :=
 Ret.mono h fun v w' ⟨he,hr⟩ => ⟨he.noTouch bx,he.size,k v w' he hr⟩
theorem CallK.exact {P : Program} {f : FuncId} {args : Array Value} {w : World} {bx : List Nat} {v0 : Value} {K : Value → World → Prop}
  (h : Calls P f args w (Ret fun v w' => Ext w w' ∧ v = v0)) (k : ∀ w',Ext w w' → K v0 w') : CallK P f args w bx K :=
 CallK.ext h fun _ w' he hv => hv ▸ k w' he
theorem CallK.chg {P : Program} {f : FuncId} {args : Array Value} {w : World} {bx F : List Nat} {R K : Value → World → Prop}
  (h : Calls P f args w (Ret fun v w' => Chg F w w' ∧ R v w')) (hd : ∀ b ∈ bx,b ∉ F) (k : ∀ v w',Chg F w w' → R v w' → K v w') : CallK P f args w bx K :=
 Ret.mono h fun v w' ⟨he,hr⟩ => ⟨he.noTouch bx hd,he.size,k v w' he hr⟩
section code
variable {P : Program} {Q : Exit → Act → World → Prop} {a : Act} {w : World}
theorem then_normal {K : Act → World → Prop} (h : K a w) : Exit.then K Q .normal a w := h
theorem then_exit {K : Act → World → Prop} {i : Nat} (h : Q (.exit i) a w) : Exit.then K Q (.exit i) a w := h
theorem then_ret {K : Act → World → Prop} (h : Q .ret a w) : Exit.then K Q .ret a w := h
theorem block_normal {id : Nat} (h : Q .normal a w) : Exit.inBlock id Q .normal a w := h
theorem block_hit {id : Nat} (h : Q .normal a w) : Exit.inBlock id Q (.exit id) a w := by simpa [Exit.inBlock] using h
theorem block_miss {id i : Nat} (hne : Nat.beq i id = false) (h : Q (.exit i) a w) : Exit.inBlock id Q (.exit i) a w := by
 have : ¬ i = id := fun e => by subst e; simp at hne
 simpa [Exit.inBlock,this] using h
theorem block_ret {id : Nat} (h : Q .ret a w) : Exit.inBlock id Q .ret a w := h
theorem wp_meet {c : Code} (J : Act → World → Prop) (h : c.wp P (Exit.then J Q) a w) (k : ∀ a w,J a w → Q .normal a w) : c.wp P Q a w :=
 wp_mono h fun e a w hq => by cases e <;> first | exact k _ _ hq | exact hq
theorem wp_loop_st {c : Code} {σ : Type} (I : σ → Act → World → Prop) (μ : σ → Nat) (s₀ : σ) (h₀ : I s₀ a w)
  (round : ∀ s a w,I s a w → c.wp P (Exit.then (fun a' w' => ∃ s',I s' a' w' ∧ μ s' < μ s) Q) a w) : (Code.loop c).wp P Q a w := by
 classical
 have hex : ∀ a w,(∃ s,I s a w) → ∃ n,∃ s,I s a w ∧ μ s = n := fun a w ⟨s,hs⟩ => ⟨μ s,s,hs,rfl⟩
 have hleast : ∀ a w,(∃ s,I s a w) → ∃ s,I s a w ∧ ∀ s',I s' a w → μ s ≤ μ s' := by
  intro a w hs
  have key : ∀ n,∀ s,I s a w → μ s = n → ∃ s,I s a w ∧ ∀ s',I s' a w → μ s ≤ μ s' := by
   intro n
   induction n using Nat.strongRecOn with
   |_ n ih =>
    intro s hs hn
    by_cases hm : ∃ s',I s' a w ∧ μ s' < μ s
    ·obtain ⟨s',h1,h2⟩ := hm
     exact ih (μ s') (hn ▸ h2) s' h1 rfl
    ·exact ⟨s,hs,fun s' h' => Nat.le_of_not_lt fun hlt => hm ⟨s',h',hlt⟩⟩
  obtain ⟨s,h⟩ := hs
  exact key _ s h rfl
 let m : Act → World → Nat := fun a w => if h : ∃ s,I s a w then μ (hleast a w h).choose else 0
 have hm : ∀ a w s,I s a w → m a w ≤ μ s := by
  intro a w s hs
  have h : ∃ s,I s a w := ⟨s,hs⟩
  show (if h : ∃ s,I s a w then μ (hleast a w h).choose else 0) ≤ μ s
  rw [dif_pos h]
  exact (hleast a w h).choose_spec.2 s hs
 refine wp_loop (fun a w => ∃ s,I s a w) m ⟨s₀,h₀⟩ fun a w hI => ?_
 have hsp := (hleast a w hI).choose_spec
 have e : m a w = μ (hleast a w hI).choose := by
  show (if h : ∃ s,I s a w then μ (hleast a w h).choose else 0) = _
  rw [dif_pos hI]
 refine wp_mono (round _ a w hsp.1) fun x a' w' hq => ?_
 cases x with
 |normal =>
  obtain ⟨s',h1,h2⟩ := hq
  exact ⟨⟨s',h1⟩,by rw [e]; exact Nat.lt_of_le_of_lt (hm a' w' s' h1) h2⟩
 |_ => exact hq
end code
theorem res_tmp {P : Program} {fn : Func} {n : Nat} {a : Act} {L : List (Nat × Value)} {w : World} {t : Nat} {v : Value} {R : Value → World → Prop} (hr : fn.results = #[.tmp t]) (h : Ag n a L) (hv : lookupL t L = some v) (hR : R v w) :
  bodyPost P fn (Ret R) .ret a w :=
 ⟨h.defs,v,by rw [results_tmp hr,h.val t v hv],hR⟩
theorem res_tmp2 {P : Program} {fn : Func} {n : Nat} {a : Act} {L : List (Nat × Value)} {w : World} {t u : Nat} {x y : Value} {R : Value → World → Prop} (hr : fn.results = #[.tmp t,.tmp u]) (h : Ag n a L) (hx : lookupL t L = some x) (hy : lookupL u L = some y) (hR : R (.tuple #[x,y]) w) :
  bodyPost P fn (Ret R) .ret a w :=
 ⟨h.defs,_,by rw [results_tmp2 hr,h.val t x hx,h.val u y hy],hR⟩
theorem res_none {P : Program} {fn : Func} {n : Nat} {a : Act} {L : List (Nat × Value)} {w : World} {R : Value → World → Prop} (hr : fn.results = #[]) (h : Ag n a L) (hR : R (.tuple #[]) w) :
  bodyPost P fn (Ret R) .ret a w :=
 ⟨h.defs,_,by rw [results_none hr],hR⟩
theorem res_end {P : Program} {fn : Func} {R : Ending → World → Prop} {a : Act} {w : World} (h : bodyPost P fn R .ret a w) : bodyPost P fn R .normal a w := h
end
section
open Go.RowKit
def cV (g : Bool) (v : Value) : Value := bif g then v else undef
theorem cV_true (v : Value) : cV true v = v := rfl
def opK (P : Program) (ops : Array Oper) (Q : Exit → Act → World → Prop) (o : Oper) (K : Act → World → Prop) (a : Act) (w : World) : Prop :=
 if Region.wanted o (yielded ops a.tmps) then o.wp P a w K Q else K (a.put o.dst undef) w
section
variable {P : Program} {ops : Array Oper} {Q : Exit → Act → World → Prop} {K : Act → World → Prop} {n : Nat} {a : Act} {w : World} {L : List (Nat × Value)}
theorem sq {o : Oper} {rest : List Oper} (h : opK P ops Q o (wpList P ops Q rest) a w) : wpList P ops Q (o :: rest) a w := by
 unfold opK at h
 unfold wpList
 split
 ·rename_i hw; rw [if_pos hw] at h; exact .inl h
 ·rename_i hw; rw [if_neg hw] at h; exact h
theorem sq_end (h : Q .normal a w) : wpList P ops Q [] a w := h
theorem opK_mono {o : Oper} {K' : Act → World → Prop} (h : opK P ops Q o K a w) (hk : ∀ a w,K a w → K' a w) : opK P ops Q o K' a w := by
 unfold opK at *
 split
 ·rename_i hw; rw [if_pos hw] at h; exact Oper.wp_mono hk h
 ·rename_i hw; rw [if_neg hw] at h; exact hk _ _ h
theorem opk_val {d : Nat} {op : Op} {ty : TypeId} {pos : String} {after : Array Edge} {v : Value} {w' : World} (hA : Ag n a L) (hd : Nat.blt d n = true)
  (hrun : (execOp a.eval ⟨some d,op,ty,pos,after,none⟩).run P w = .ok (.value v) w')
  (k : ∀ a',Ag n a' ((d,v) :: L) → a' = a.put (some d) v → K a' w') : opK P ops Q ⟨some d,op,ty,pos,after,none⟩ K a w := by
 unfold opK
 simp only [Region.wanted,if_true,Oper.wp,hrun,Oper.upon]
 exact k _ (hA.put hd v) rfl
theorem opk_skip {op : Op} {ty : TypeId} {pos : String} {after : Array Edge} {w' : World} (hA : Ag n a L)
  (hrun : (execOp a.eval ⟨none,op,ty,pos,after,none⟩).run P w = .ok .skip w')
  (k : ∀ a',Ag n a' L → K a' w') : opK P ops Q ⟨none,op,ty,pos,after,none⟩ K a w := by
 unfold opK
 simp only [Region.wanted,if_true,Oper.wp,hrun,Oper.upon]
 exact k _ hA
theorem yielded_of {j tj : Nat} {g e : Bool} (hA : Ag n a L) (hj : (ops[j]?).bind (·.dst) = some tj) (hl : lookupL tj L = some (cV g (.bool e))) : (yielded ops a.tmps j == some true) = (g && e) ∧ (yielded ops a.tmps j == some false) = (g && !e) := by
 have hv := hA.val tj _ hl
 have : yielded ops a.tmps j = bif g then some e else none := by
  unfold yielded
  rw [hj]
  cases g with
  |false =>
   simp only [cV,cond_false] at hv ⊢
   show (match a.tmps[tj]? with | some (.bool b) => some b | _ => none) = none
   cases ht : a.tmps[tj]? with
   |none => rfl
   |some x =>
    have hx : x = undef := by rw [Array.getD_eq_getD_getElem?,ht] at hv; simpa using hv
    subst hx; rfl
  |true =>
   simp only [cV,cond_true] at hv ⊢
   show (match a.tmps[tj]? with | some (.bool b) => some b | _ => none) = some e
   cases ht : a.tmps[tj]? with
   |none => rw [Array.getD_eq_getD_getElem?,ht] at hv; simp [undef] at hv
   |some x =>
    have hx : x = .bool e := by rw [Array.getD_eq_getD_getElem?,ht] at hv; simpa using hv
    subst hx; rfl
 rw [this]
 cases g <;> cases e <;> exact ⟨rfl,rfl⟩
theorem wanted_of {j tj : Nat} {want g e : Bool} {dst : Option Nat} {op : Op} {ty : TypeId} {pos : String} {after : Array Edge} (hA : Ag n a L) (hj : (ops[j]?).bind (·.dst) = some tj) (hl : lookupL tj L = some (cV g (.bool e))) :
  Region.wanted ⟨dst,op,ty,pos,after,some (j,want)⟩ (yielded ops a.tmps) = (g && (e == want)) := by
 obtain ⟨h1,h2⟩ := yielded_of hA hj hl
 simp only [Region.wanted]
 cases want
 ·rw [h2]; cases e <;> rfl
 ·rw [h1]; cases e <;> rfl
theorem opk_gval {j tj d : Nat} {want g e : Bool} {op : Op} {ty : TypeId} {pos : String} {after : Array Edge} {v : Value} (hA : Ag n a L) (hd : Nat.blt d n = true)
  (hj : (ops[j]?).bind (·.dst) = some tj) (hl : lookupL tj L = some (cV g (.bool e)))
  (hrun : (g && (e == want)) = true → (execOp a.eval ⟨some d,op,ty,pos,after,some (j,want)⟩).run P w = .ok (.value v) w)
  (k : ∀ a',Ag n a' ((d,cV (g && (e == want)) v) :: L) → a' = a.put (some d) (cV (g && (e == want)) v) → K a' w) : opK P ops Q ⟨some d,op,ty,pos,after,some (j,want)⟩ K a w := by
 unfold opK
 rw [wanted_of hA hj hl]
 by_cases h : (g && (e == want)) = true
 ·rw [if_pos h]
  simp only [Oper.wp,hrun h,Oper.upon]
  have := hA.put hd v
  refine k _ ?_ (by rw [h]; rfl)
  rw [h,cV_true]; exact this
 ·rw [if_neg h]
  have hf : (g && (e == want)) = false := by simpa using h
  refine k _ ?_ (by rw [hf]; rfl)
  rw [hf]; exact hA.put hd undef
theorem opk_gext {j tj d : Nat} {want g e : Bool} {op : Op} {ty : TypeId} {pos : String} {after : Array Edge} {v : Value} {w1 : World} (hA : Ag n a L) (hd : Nat.blt d n = true)
  (hj : (ops[j]?).bind (·.dst) = some tj) (hl : lookupL tj L = some (cV g (.bool e)))
  (hrun : (g && (e == want)) = true → (execOp a.eval ⟨some d,op,ty,pos,after,some (j,want)⟩).run P w = .ok (.value v) w1)
  (k : ∀ a',Ag n a' ((d,cV (g && (e == want)) v) :: L) → a' = a.put (some d) (cV (g && (e == want)) v) → K a' (bif (g && (e == want)) then w1 else w)) : opK P ops Q ⟨some d,op,ty,pos,after,some (j,want)⟩ K a w := by
 unfold opK
 rw [wanted_of hA hj hl]
 by_cases h : (g && (e == want)) = true
 ·rw [if_pos h]
  simp only [Oper.wp,hrun h,Oper.upon]
  have := hA.put hd v
  have k' := k (a.put (some d) v) (by rw [h,cV_true]; exact this) (by rw [h]; rfl)
  rw [h] at k'; exact k'
 ·rw [if_neg h]
  have hf : (g && (e == want)) = false := by simpa using h
  have k' := k (a.put (some d) undef) (by rw [hf]; exact hA.put hd undef) (by rw [hf]; rfl)
  rw [hf] at k'; exact k'
theorem upon_call {o : Oper} {f : FuncId} {args : Array Value} (hrun : (execOp a.eval o).run P w = .ok (.enter f args) w) {R : Value → World → Prop}
  (hc : Calls P f args w (Ret R)) (k : ∀ v w',R v w' → K (a.put o.dst v) w') : o.wp P a w K Q := by
 unfold Oper.wp
 rw [hrun]
 refine hc.mono fun e w' he => ?_
 cases e with
 |returned v => exact k v w' he
 |_ => exact he.elim
theorem opk_call {d : Nat} {op : Op} {ty : TypeId} {pos : String} {after : Array Edge} {f : FuncId} {args : Array Value} {bx : List Nat} {R : Value → World → Prop} (hA : Ag n a L) (hd : Nat.blt d n = true)
  (hrun : (execOp a.eval ⟨some d,op,ty,pos,after,none⟩).run P w = .ok (.enter f args) w) (hc : CallK P f args w bx R)
  (k : ∀ a' v w',Ag n a' ((d,v) :: L) → a' = a.put (some d) v → NoTouch bx w w' → w.heap.size ≤ w'.heap.size → R v w' → K a' w') : opK P ops Q ⟨some d,op,ty,pos,after,none⟩ K a w := by
 unfold opK
 simp only [Region.wanted,if_true]
 exact upon_call hrun hc fun v w' ⟨h1,h2,h3⟩ => k _ v w' (hA.put hd v) rfl h1 h2 h3
theorem opk_gcall {j tj d : Nat} {want g e : Bool} {op : Op} {ty : TypeId} {pos : String} {after : Array Edge} {f : FuncId} {args : Array Value} {v0 : Value} (hA : Ag n a L) (hd : Nat.blt d n = true)
  (hj : (ops[j]?).bind (·.dst) = some tj) (hl : lookupL tj L = some (cV g (.bool e)))
  (hrun : (g && (e == want)) = true → (execOp a.eval ⟨some d,op,ty,pos,after,some (j,want)⟩).run P w = .ok (.enter f args) w)
  (hc : (g && (e == want)) = true → Calls P f args w (Ret fun v w' => Ext w w' ∧ v = v0))
  (k : ∀ a' w',Ag n a' ((d,cV (g && (e == want)) v0) :: L) → a' = a.put (some d) (cV (g && (e == want)) v0) → Ext w w' → K a' w') : opK P ops Q ⟨some d,op,ty,pos,after,some (j,want)⟩ K a w := by
 unfold opK
 rw [wanted_of hA hj hl]
 by_cases h : (g && (e == want)) = true
 ·rw [if_pos h]
  refine upon_call (hrun h) (hc h) fun v w' ⟨h1,h2⟩ => k _ w' ?_ (by rw [h,h2]; rfl) h1
  rw [h,cV_true,h2]; exact hA.put hd v0
 ·rw [if_neg h]
  have hf : (g && (e == want)) = false := by simpa using h
  refine k _ w ?_ (by rw [hf]; rfl) (Chg.refl _ _)
  rw [hf]; exact hA.put hd undef
end
section runs
variable {P : Program} {ρ : Operand → Value} {w : World} {dst : Option Nat} {ty : TypeId} {pos : String} {after : Array Edge} {guard : Option (Nat × Bool)}
theorem r_move {x : Operand} {v : Value} (hx : ρ x = v) : (execOp ρ ⟨dst,.move x,ty,pos,after,guard⟩).run P w = .ok (.value v) w := by simp [execOp,hx]
theorem r_assign {x : Operand} {v : Value} (hx : ρ x = v) : (execOp ρ ⟨dst,.assign x,ty,pos,after,guard⟩).run P w = .ok (.value v) w := by simp [execOp,hx]
theorem r_or {c b : Operand} {e f g : Bool} (hc : ρ c = .bool e) (hb : ρ b = cV g (.bool f)) (hg : e = false → g = true) :
  (execOp ρ ⟨dst,.pick c (.const (.bool true)) b,ty,pos,after,guard⟩).run P w = .ok (.value (.bool (e || f))) w ∨ ρ (.const (.bool true)) ≠ .bool true := by
 by_cases h : ρ (.const (.bool true)) = .bool true
 ·left
  cases e with
  |true => simp [execOp,hc,asBool,h]
  |false => simp [execOp,hc,asBool,hb,hg rfl,cV]
 ·exact .inr h
end runs
section runs
variable {P : Program} {a : Act} {w : World} {dst : Option Nat} {ty : TypeId} {pos : String} {after : Array Edge} {guard : Option (Nat × Bool)}
theorem r_pick_or {c b : Operand} {e f g : Bool} (hc : a.eval c = .bool e) (hb : a.eval b = cV g (.bool f)) (hg : e = false → g = true) :
  (execOp a.eval ⟨dst,.pick c (.const (.bool true)) b,ty,pos,after,guard⟩).run P w = .ok (.value (.bool (e || f))) w :=
 (r_or hc hb hg).resolve_right (by simp [Act.eval])
theorem r_pick_and {c b : Operand} {e f g : Bool} (hc : a.eval c = .bool e) (hb : a.eval b = cV g (.bool f)) (hg : e = true → g = true) :
  (execOp a.eval ⟨dst,.pick c b (.const (.bool false)),ty,pos,after,guard⟩).run P w = .ok (.value (.bool (e && f))) w := by
 cases e with
 |false =>
  have h0 : a.eval (.const (.bool false)) = .bool false := rfl
  simp [execOp,hc,asBool,h0]
 |true => simp [execOp,hc,asBool,hb,hg rfl,cV]
end runs
section runs
variable {P : Program} {ρ : Operand → Value} {w : World} {dst : Option Nat} {ty : TypeId} {pos : String} {after : Array Edge} {guard : Option (Nat × Bool)}
theorem r_add {t yt : TypeId} {x y : Operand} {k : IntKind} {p q : Int} (hx : ρ x = .int k p) (hy : ρ y = .int k q) :
  (execOp ρ ⟨dst,.binOp .add t x y yt,ty,pos,after,guard⟩).run P w = .ok (.value (.int k (k.wrap (p + q)))) w := by simp [execOp,hx,hy,go_sem,Op.intArith]
theorem r_sub {t yt : TypeId} {x y : Operand} {k : IntKind} {p q : Int} (hx : ρ x = .int k p) (hy : ρ y = .int k q) :
  (execOp ρ ⟨dst,.binOp .sub t x y yt,ty,pos,after,guard⟩).run P w = .ok (.value (.int k (k.wrap (p - q)))) w := by simp [execOp,hx,hy,go_sem,Op.intArith]
theorem r_mul {t yt : TypeId} {x y : Operand} {k : IntKind} {p q : Int} (hx : ρ x = .int k p) (hy : ρ y = .int k q) :
  (execOp ρ ⟨dst,.binOp .mul t x y yt,ty,pos,after,guard⟩).run P w = .ok (.value (.int k (k.wrap (p * q)))) w := by simp [execOp,hx,hy,go_sem,Op.intArith]
theorem r_quo {t yt : TypeId} {x y : Operand} {k : IntKind} {p q : Int} (hx : ρ x = .int k p) (hy : ρ y = .int k q) (h0 : q ≠ 0) :
  (execOp ρ ⟨dst,.binOp .quo t x y yt,ty,pos,after,guard⟩).run P w = .ok (.value (.int k (k.wrap (p.tdiv q)))) w := by simp [execOp,hx,hy,go_sem,Op.intDiv,h0]
theorem r_rem {t yt : TypeId} {x y : Operand} {k : IntKind} {p q : Int} (hx : ρ x = .int k p) (hy : ρ y = .int k q) (h0 : q ≠ 0) :
  (execOp ρ ⟨dst,.binOp .rem t x y yt,ty,pos,after,guard⟩).run P w = .ok (.value (.int k (p.tmod q))) w := by simp [execOp,hx,hy,go_sem,Op.intDiv,h0]
theorem r_and {t yt : TypeId} {x y : Operand} {k : IntKind} {p q : Int} (hx : ρ x = .int k p) (hy : ρ y = .int k q) :
  (execOp ρ ⟨dst,.binOp .and t x y yt,ty,pos,after,guard⟩).run P w = .ok (.value (.int k (bits .and k p q))) w := by simp [execOp,hx,hy,go_sem]
theorem r_bor {t yt : TypeId} {x y : Operand} {k : IntKind} {p q : Int} (hx : ρ x = .int k p) (hy : ρ y = .int k q) :
  (execOp ρ ⟨dst,.binOp .or t x y yt,ty,pos,after,guard⟩).run P w = .ok (.value (.int k (bits .or k p q))) w := by simp [execOp,hx,hy,go_sem]
theorem r_xor {t yt : TypeId} {x y : Operand} {k : IntKind} {p q : Int} (hx : ρ x = .int k p) (hy : ρ y = .int k q) :
  (execOp ρ ⟨dst,.binOp .xor t x y yt,ty,pos,after,guard⟩).run P w = .ok (.value (.int k (bits .xor k p q))) w := by simp [execOp,hx,hy,go_sem]
theorem r_andNot {t yt : TypeId} {x y : Operand} {k : IntKind} {p q : Int} (hx : ρ x = .int k p) (hy : ρ y = .int k q) :
  (execOp ρ ⟨dst,.binOp .andNot t x y yt,ty,pos,after,guard⟩).run P w = .ok (.value (.int k (bits .andNot k p q))) w := by simp [execOp,hx,hy,go_sem]
theorem r_shl {t yt : TypeId} {x y : Operand} {k yk : IntKind} {p q : Int} (hx : ρ x = .int k p) (hy : ρ y = .int yk q) (h0 : 0 ≤ q) (h1 : q ≤ k.bits) :
  (execOp ρ ⟨dst,.binOp .shl t x y yt,ty,pos,after,guard⟩).run P w = .ok (.value (.int k (k.wrap (p * 2 ^ q.toNat)))) w := by
 simp [execOp,hx,hy,go_sem,shift_shl k yk p q h0 h1]
theorem r_shr {t yt : TypeId} {x y : Operand} {k yk : IntKind} {p q : Int} (hx : ρ x = .int k p) (hy : ρ y = .int yk q) (h0 : 0 ≤ q) (h1 : q ≤ k.bits) :
  (execOp ρ ⟨dst,.binOp .shr t x y yt,ty,pos,after,guard⟩).run P w = .ok (.value (.int k (p / 2 ^ q.toNat))) w := by
 simp [execOp,hx,hy,go_sem,shift_shr k yk p q h0 h1]
theorem r_eql {t yt : TypeId} {x y : Operand} {k : IntKind} {p q : Int} (hx : ρ x = .int k p) (hy : ρ y = .int k q) :
  (execOp ρ ⟨dst,.binOp .eql t x y yt,ty,pos,after,guard⟩).run P w = .ok (.value (.bool (decide (p = q)))) w := by simp [execOp,hx,hy,go_sem]; rfl
theorem r_neq {t yt : TypeId} {x y : Operand} {k : IntKind} {p q : Int} (hx : ρ x = .int k p) (hy : ρ y = .int k q) :
  (execOp ρ ⟨dst,.binOp .neq t x y yt,ty,pos,after,guard⟩).run P w = .ok (.value (.bool (decide (p ≠ q)))) w := by
 simp [execOp,hx,hy,go_sem]; rw [Bool.eq_iff_iff]; simp
theorem r_lss {t yt : TypeId} {x y : Operand} {k : IntKind} {p q : Int} (hx : ρ x = .int k p) (hy : ρ y = .int k q) :
  (execOp ρ ⟨dst,.binOp .lss t x y yt,ty,pos,after,guard⟩).run P w = .ok (.value (.bool (decide (p < q)))) w := by simp [execOp,hx,hy,go_sem]
theorem r_leq {t yt : TypeId} {x y : Operand} {k : IntKind} {p q : Int} (hx : ρ x = .int k p) (hy : ρ y = .int k q) :
  (execOp ρ ⟨dst,.binOp .leq t x y yt,ty,pos,after,guard⟩).run P w = .ok (.value (.bool (decide (p ≤ q)))) w := by simp [execOp,hx,hy,go_sem]
theorem r_gtr {t yt : TypeId} {x y : Operand} {k : IntKind} {p q : Int} (hx : ρ x = .int k p) (hy : ρ y = .int k q) :
  (execOp ρ ⟨dst,.binOp .gtr t x y yt,ty,pos,after,guard⟩).run P w = .ok (.value (.bool (decide (q < p)))) w := by simp [execOp,hx,hy,go_sem]
theorem r_geq {t yt : TypeId} {x y : Operand} {k : IntKind} {p q : Int} (hx : ρ x = .int k p) (hy : ρ y = .int k q) :
  (execOp ρ ⟨dst,.binOp .geq t x y yt,ty,pos,after,guard⟩).run P w = .ok (.value (.bool (decide (q ≤ p)))) w := by simp [execOp,hx,hy,go_sem]
theorem Bs_toL (s : Str) : (Bs s).toList = s := by rw [ByteArray.toList_eq]; simp [Bs]
theorem r_seql {t yt : TypeId} {x y : Operand} {p q : Str} (hx : ρ x = .string (Bs p)) (hy : ρ y = .string (Bs q)) :
  (execOp ρ ⟨dst,.binOp .eql t x y yt,ty,pos,after,guard⟩).run P w = .ok (.value (.bool (decide (p = q)))) w := by
 simp only [execOp,hx,hy,eqGuard_at_string,binOp,Op.stringOp,Bs_toL]; simp; rw [Bool.eq_iff_iff]; simp
theorem r_sneq {t yt : TypeId} {x y : Operand} {p q : Str} (hx : ρ x = .string (Bs p)) (hy : ρ y = .string (Bs q)) :
  (execOp ρ ⟨dst,.binOp .neq t x y yt,ty,pos,after,guard⟩).run P w = .ok (.value (.bool (decide (p ≠ q)))) w := by
 simp only [execOp,hx,hy,eqGuard_at_string,binOp,Op.stringOp,Bs_toL]; simp; rw [Bool.eq_iff_iff]; simp
theorem r_slss {t yt : TypeId} {x y : Operand} {p q : Str} (hx : ρ x = .string (Bs p)) (hy : ρ y = .string (Bs q)) :
  (execOp ρ ⟨dst,.binOp .lss t x y yt,ty,pos,after,guard⟩).run P w = .ok (.value (.bool (Op.bytesLess p q))) w := by
 simp only [execOp,hx,hy,eqGuard_at_string,binOp,Op.stringOp,Bs_toL]; simp
theorem r_sleq {t yt : TypeId} {x y : Operand} {p q : Str} (hx : ρ x = .string (Bs p)) (hy : ρ y = .string (Bs q)) :
  (execOp ρ ⟨dst,.binOp .leq t x y yt,ty,pos,after,guard⟩).run P w = .ok (.value (.bool (Op.bytesLess p q || decide (p = q)))) w := by
 simp only [execOp,hx,hy,eqGuard_at_string,binOp,Op.stringOp,Bs_toL]; simp; rw [Bool.eq_iff_iff]; simp
theorem r_sgtr {t yt : TypeId} {x y : Operand} {p q : Str} (hx : ρ x = .string (Bs p)) (hy : ρ y = .string (Bs q)) :
  (execOp ρ ⟨dst,.binOp .gtr t x y yt,ty,pos,after,guard⟩).run P w = .ok (.value (.bool (!(Op.bytesLess p q || decide (p = q))))) w := by
 simp only [execOp,hx,hy,eqGuard_at_string,binOp,Op.stringOp,Bs_toL]; simp; rw [Bool.eq_iff_iff]; simp
theorem r_sgeq {t yt : TypeId} {x y : Operand} {p q : Str} (hx : ρ x = .string (Bs p)) (hy : ρ y = .string (Bs q)) :
  (execOp ρ ⟨dst,.binOp .geq t x y yt,ty,pos,after,guard⟩).run P w = .ok (.value (.bool (!Op.bytesLess p q))) w := by
 simp only [execOp,hx,hy,eqGuard_at_string,binOp,Op.stringOp,Bs_toL]; simp
theorem r_sadd {t yt : TypeId} {x y : Operand} {p q : Str} (hx : ρ x = .string (Bs p)) (hy : ρ y = .string (Bs q)) (hb : p.length + q.length ≤ 9223372036854775807) :
  (execOp ρ ⟨dst,.binOp .add t x y yt,ty,pos,after,guard⟩).run P w = .ok (.value (.string (Bs (p ++ q)))) w := by
 have e : ¬ (((Bs p).size + (Bs q).size : Nat) : Int) > IntKind.i64.max := by
  rw [Bs_size,Bs_size]; simp only [IntKind.max,IntKind.bits,IntKind.signed]; simp; omega
 have e2 : Bs p ++ Bs q = Bs (p ++ q) := by
  apply ByteArray.ext; simp [Bs,ByteArray.data_append]
 simp only [execOp,hx,hy,eqGuard_at_string,binOp,Op.stringOp,e2,if_neg e]
 simp
theorem r_not {t : TypeId} {x : Operand} {b : Bool} (hx : ρ x = .bool b) :
  (execOp ρ ⟨dst,.unOp .not t x,ty,pos,after,guard⟩).run P w = .ok (.value (.bool (!b))) w := by simp [execOp,hx,Op.unary]
theorem r_neg {t : TypeId} {x : Operand} {k : IntKind} {p : Int} (hx : ρ x = .int k p) :
  (execOp ρ ⟨dst,.unOp .neg t x,ty,pos,after,guard⟩).run P w = .ok (.value (.int k (k.wrap (0 - p)))) w := by simp [execOp,hx,Op.unary,Op.intArith]
theorem r_cpl {t : TypeId} {x : Operand} {k : IntKind} {p : Int} (hx : ρ x = .int k p) :
  (execOp ρ ⟨dst,.unOp .xor t x,ty,pos,after,guard⟩).run P w = .ok (.value (.int k (bits .xor k (if k.signed then -1 else k.max) p))) w := by
 simp only [execOp,hx,Op.unary,intBits_xor]; rfl
theorem r_conv {s d : TypeId} {x : Operand} {k k' : IntKind} {p : Int} (hx : ρ x = .int k' p) (hs : (P.underlying s).isSome = true) (hd : P.underlying d = some (.int k)) :
  (execOp ρ ⟨dst,.convert s d x,ty,pos,after,guard⟩).run P w = .ok (.value (.int k (k.wrap p))) w := by
 obtain ⟨z,hz⟩ := Option.isSome_iff_exists.1 hs
 simp [execOp,hx,convert,run_underlying hz,run_underlying hd,Conv.intToInt]
theorem r_len {t : TypeId} {x : Operand} {s : Sl} {e : TypeId} (hx : ρ x = s.v) (ht : P.underlying t = some (.slice e)) :
  (execOp ρ ⟨dst,.call { callee := .builtin .len,args := #[x],argTypes := #[t] },ty,pos,after,guard⟩).run P w = .ok (.value (.int .i64 (s.n : Int))) w := by
 simp [execOp,resolve,invoke,builtin,Builtin.len_,hx,run_underlying ht,goInt]
theorem r_slen {t : TypeId} {x : Operand} {s : Str} (hx : ρ x = .string (Bs s)) (ht : P.underlying t = some .string) :
  (execOp ρ ⟨dst,.call { callee := .builtin .len,args := #[x],argTypes := #[t] },ty,pos,after,guard⟩).run P w = .ok (.value (.int .i64 (s.length : Int))) w := by
 simp [execOp,resolve,invoke,builtin,Builtin.len_,hx,run_underlying ht,goInt,Bs_size]
theorem r_min {t u : TypeId} {x y : Operand} {k : IntKind} {p q : Int} (hx : ρ x = .int k p) (hy : ρ y = .int k q) :
  (execOp ρ ⟨dst,.call { callee := .builtin .min,args := #[x,y],argTypes := #[t,u] },ty,pos,after,guard⟩).run P w = .ok (.value (.int k (min p q))) w := by
 have e : (if q < p then q else p) = min p q := by omega
 simp [execOp,resolve,invoke,builtin,Builtin.min_,Builtin.min2,hx,hy,e]
theorem r_max {t u : TypeId} {x y : Operand} {k : IntKind} {p q : Int} (hx : ρ x = .int k p) (hy : ρ y = .int k q) :
  (execOp ρ ⟨dst,.call { callee := .builtin .max,args := #[x,y],argTypes := #[t,u] },ty,pos,after,guard⟩).run P w = .ok (.value (.int k (max p q))) w := by
 have e : (if p < q then q else p) = max p q := by omega
 simp [execOp,resolve,invoke,builtin,Builtin.max_,Builtin.max2,hx,hy,e]
theorem r_extract {x : Operand} {vs : Array Value} {i : Nat} {v : Value} (hx : ρ x = .tuple vs) (hv : vs[i]? = some v) :
  (execOp ρ ⟨dst,.extract x i,ty,pos,after,guard⟩).run P w = .ok (.value v) w := by simp [execOp,Instr.extract,hx,hv]
theorem r_nilCheck {x : Operand} {p : Addr} (hx : ρ x = .pointer (some p)) :
  (execOp ρ ⟨dst,.nilCheck x,ty,pos,after,guard⟩).run P w = .ok (.value (.pointer (some p))) w := by simp [execOp,hx]
theorem r_call {f : FuncId} {fn : Func} {xs : Array Operand} {ts : Array TypeId} {args : Array Value} (hf : P.funcs[f]? = some fn) (hn : fn.name ≠ "runtime.NumGoroutine") (hb : fn.body.isSome = true) (hx : xs.map ρ = args) (hρ : ρ (.func f) = .func (.func f) #[] #[]) :
  (execOp ρ ⟨dst,.call { callee := .value (.func f),args := xs,argTypes := ts },ty,pos,after,guard⟩).run P w = .ok (.enter f args) w := by
 have e : program.run P w = .ok P w := rfl
 have hb' : fn.body.isNone = false := by cases h : fn.body <;> simp_all
 have hn' : (fn.name == "runtime.NumGoroutine") = false := by simpa using hn
 simp only [execOp,resolve,invoke,hρ,Deferred.ofValue,callFunc,hx]
 simp only [Sem.run_bind,Sem.run_pure,Result.andThen_ok,e,hf,hn',hb']
 simp
end runs
end
section
open Go.RowKit
def TI (P : Program) (t : TypeId) (z : Value) (size bytes : Nat) : Prop := ∃ i,P.info? t = some i ∧ i.zero = some z ∧ i.size = size ∧ i.bytes = bytes
theorem TI.of {P : Program} {e : TypeId} {z : Value} {size bytes : Nat} (h : (P.info? e).map (fun i => (i.zero,i.size,i.bytes)) = some (some z,size,bytes)) : TI P e z size bytes := info_parts h
section ti
variable {P : Program} {t : TypeId} {z : Value} {size bytes : Nat}
theorem TI.sizeOf (h : TI P t z size bytes) (w : World) : (Go.sizeOf t).run P w = .ok size w := by
 obtain ⟨i,hi,h1,h2,h3⟩ := h
 have e : program.run P w = .ok P w := rfl
 simp [Go.sizeOf,typeInfo,e,hi,h2]
theorem TI.zeroValue (h : TI P t z size bytes) (w : World) : (Go.zeroValue t).run P w = .ok z w := by
 obtain ⟨i,hi,h1,h2,h3⟩ := h
 have e : program.run P w = .ok P w := rfl
 simp [Go.zeroValue,typeInfo,e,hi,h1]
end ti
def Cells (w : World) (p : Addr) (cs : List Value) : Prop := ∀ j v,cs[j]? = some v → w.cell? (p.add j) = some v
theorem Cells.ext {w w' : World} {p : Addr} {cs : List Value} (h : Cells w p cs) (e : Ext w w') : Cells w' p cs := fun j v hv => e.cell (h j v hv)
theorem Addr.add_block (p : Addr) (j : Nat) : (p.add j).block = p.block := by unfold Addr.add; split <;> rfl
theorem Cells.chg {F : List Nat} {w w' : World} {p : Addr} {cs : List Value} (h : Cells w p cs) (e : Chg F w w') (hp : p.block ∉ F) : Cells w' p cs := fun j v hv => e.cell (h j v hv) (by rw [Addr.add_block]; exact hp)
theorem Box.cells {w : World} {B : Nat} {T : TypeId} {cs : List Value} (h : Box w B T cs) : Cells w ⟨B,0,none⟩ cs := fun j v hv => by
 rw [Addr.add_lit,Nat.zero_add]; exact h.cell j v hv
theorem Box.part {w : World} {B : Nat} {T : TypeId} {cs : List Value} (h : Box w B T cs) (o : Nat) (ds : List Value) (hd : (cs.drop o).take ds.length = ds) : Cells w ⟨B,o,none⟩ ds := fun j v hv => by
 rw [Addr.add_lit]
 refine h.cell (o + j) v ?_
 have hlt : j < ds.length := (List.getElem?_eq_some_iff.1 hv).1
 rw [← hd] at hv
 rw [List.getElem?_take] at hv
 simpa [hlt,List.getElem?_drop] using hv
def notAgg : TypeDesc → Bool
 |.struct _ | .array _ _ => false
 |_ => true
theorem run_isAgg_no {P : Program} {t : TypeId} {d : TypeDesc} (h : P.underlying t = some d) (hd : notAgg d = true) (w : World) : (isAgg t).run P w = .ok false w := by
 simp only [isAgg,Sem.run_bind,run_underlying h,Result.andThen_ok]
 cases d <;> first | rfl | (simp [notAgg] at hd)
theorem run_isAgg_yes {P : Program} {t : TypeId} {d : TypeDesc} (h : P.underlying t = some d) (hd : notAgg d = false) (w : World) : (isAgg t).run P w = .ok true w := by
 simp only [isAgg,Sem.run_bind,run_underlying h,Result.andThen_ok]
 cases d <;> first | rfl | (simp [notAgg] at hd)
def setCells (w : World) (B : Nat) : Nat → List Value → World
 |_,[] => w
 |o,v :: vs => setCells (w.setCell ⟨B,o,none⟩ v) B (o + 1) vs
def putAt (cs : List Value) : Nat → List Value → List Value
 |_,[] => cs
 |o,v :: vs => putAt (cs.set o v) (o + 1) vs
theorem setCells_chg (B : Nat) (vs : List Value) : ∀ (w : World) (o : Nat),Chg [B] w (setCells w B o vs) := by
 induction vs with
 |nil => intro w o; exact Chg.refl _ _
 |cons v vs ih => intro w o; exact (Chg.setCell w ⟨B,o,none⟩ v).trans (ih _ _)
theorem setCells_box {B : Nat} {T : TypeId} (vs : List Value) : ∀ {w : World} {o : Nat} {cs : List Value},Box w B T cs → Box (setCells w B o vs) B T (putAt cs o vs) := by
 induction vs with
 |nil => intro w o cs h; exact h
 |cons v vs ih => intro w o cs h; exact ih (h.setCell o v)
theorem run_storeCells_box {P : Program} {B : Nat} {T : TypeId} (o : Nat) (vs : List Value) : ∀ (i : Nat) {w : World} {cs : List Value},Box w B T cs → o + i + vs.length ≤ cs.length → (∀ v ∈ vs,v.oneCell' = true) →
  (storeCells ⟨B,o,none⟩ vs i).run P w = .ok () (setCells w B (o + i) vs) := by
 induction vs with
 |nil => intro i w cs h hl h1; simp [storeCells,setCells]
 |cons v vs ih =>
  intro i w cs h hl h1
  simp only [List.length_cons] at hl
  have hc : w.cell? ⟨B,o + i,none⟩ = some (cs[o + i]'(by omega)) := h.cell (o + i) _ (List.getElem?_eq_getElem (by omega))
  have hs : (store ((⟨B,o,none⟩ : Addr).add i) v).run P w = .ok () (w.setCell ⟨B,o + i,none⟩ v) := by
   rw [run_store P w _ v _ (h1 v (by simp)),Addr.add_lit,hc]
   simp [h.free]
  simp only [storeCells,Sem.run_bind,hs,Result.andThen_ok]
  have := ih (i + 1) (h.setCell (o + i) v) (by simp; omega) (fun u hu => h1 u (by simp [hu]))
  rw [show o + (i + 1) = o + i + 1 by omega] at this
  simpa [setCells] using this
section runs
variable {P : Program} {ρ : Operand → Value} {w : World} {dst : Option Nat} {ty : TypeId} {pos : String} {after : Array Edge} {guard : Option (Nat × Bool)}
theorem r_box {t : TypeId} {x : Operand} {v : Value} {cs : List Value} (hx : ρ x = v) (hc : v.cells = cs.toArray) :
  (execOp ρ ⟨dst,.box t x,ty,pos,after,guard⟩).run P w = .ok (.value (.pointer (some ⟨w.heap.size,0,none⟩))) (w.alloc (.cells cs.toArray t (0,0))) := by
 simp only [execOp,hx,Instr.box,newVar,newRow,newObj,hc]; rfl
theorem r_alloc {t : TypeId} {z : Value} {size bytes : Nat} {cs : List Value} (ht : TI P t z size bytes) (hc : z.cells = cs.toArray) :
  (execOp ρ ⟨dst,.alloc t,ty,pos,after,guard⟩).run P w = .ok (.value (.pointer (some ⟨w.heap.size,0,none⟩))) (w.alloc (.cells cs.toArray t (0,0))) := by
 simp only [execOp,Instr.alloc,newVar,newRow,newObj,Sem.run_bind,ht.zeroValue w,Result.andThen_ok,hc]; rfl
theorem r_load1 {t : TypeId} {x : Operand} {p : Addr} {v : Value} {d : TypeDesc} (hu : P.underlying t = some d) (hd : notAgg d = true) (hx : ρ x = .pointer (some p)) (hc : w.cell? p = some v) :
  (execOp ρ ⟨dst,.load t x,ty,pos,after,guard⟩).run P w = .ok (.value v) w := by
 simp only [execOp,Instr.loadAt,hx,Instr.sureAddr,loadVar,Sem.run_bind,Sem.run_pure,Result.andThen_ok,run_isAgg_no hu hd w]
 simp [hc]
theorem r_loadN {t : TypeId} {x : Operand} {p : Addr} {cs : List Value} {d : TypeDesc} {z : Value} {bytes : Nat} (hu : P.underlying t = some d) (hd : notAgg d = false) (ht : TI P t z cs.length bytes) (hx : ρ x = .pointer (some p)) (hc : Cells w p cs) :
  (execOp ρ ⟨dst,.load t x,ty,pos,after,guard⟩).run P w = .ok (.value (.agg cs.toArray)) w := by
 simp only [execOp,Instr.loadAt,hx,Instr.sureAddr,loadVar,Sem.run_bind,Sem.run_pure,Result.andThen_ok,run_isAgg_yes hu hd w,if_true,ht.sizeOf w,run_loadCells_list w p cs hc]
theorem r_store {t : TypeId} {x y : Operand} {B o : Nat} {T : TypeId} {cs vs : List Value} {v z : Value} {bytes : Nat} (hx : ρ x = .pointer (some ⟨B,o,none⟩)) (hy : ρ y = v) (hv : v.cells = vs.toArray) (ht : TI P t z vs.length bytes)
  (hb : Box w B T cs) (hl : Nat.ble (o + vs.length) cs.length = true) (h1 : ∀ v ∈ vs,v.oneCell' = true) :
  (execOp ρ ⟨dst,.store t x y,ty,pos,after,guard⟩).run P w = .ok .skip (setCells w B o vs) := by
 have hl' : o + vs.length ≤ cs.length := by simpa using hl
 have := run_storeCells_box (P := P) o vs 0 hb (by simpa using hl') h1
 simp only [execOp,Instr.storeAt,hx,hy,Instr.sureAddr,storeVar,Sem.run_bind,Sem.run_pure,Result.andThen_ok,ht.sizeOf w,hv]
 simp only [List.size_toArray,ne_eq,not_true_eq_false,if_false]
 rw [show (o + 0) = o from rfl] at this
 simp [this]
theorem r_fieldAddr {s : TypeId} {x : Operand} {p : Addr} {i : Nat} {fs : Array Field} {f : Field} {z : Value} {size bytes : Nat} (hx : ρ x = .pointer (some p)) (hu : P.underlying s = some (.struct fs)) (hf : fs[i]? = some f) (ht : TI P f.type z size bytes) (h0 : size ≠ 0) :
  (execOp ρ ⟨dst,.fieldAddr s x i,ty,pos,after,guard⟩).run P w = .ok (.value (.pointer (some (p.add f.offset)))) w := by
 simp only [execOp,Instr.fieldAt,Sem.run_bind,run_underlying hu,Result.andThen_ok,hf,hx,Instr.sureAddr,Sem.run_pure,fieldPlace,ht.sizeOf w,if_neg h0]
theorem r_field {s : TypeId} {x : Operand} {i : Nat} {fs : Array Field} {f : Field} {cs : Array Value} {v : Value} {d : TypeDesc} (hx : ρ x = .agg cs) (hu : P.underlying s = some (.struct fs)) (hf : fs[i]? = some f) (hd : P.underlying f.type = some d) (hn : notAgg d = true) (hv : cs[f.offset]? = some v) :
  (execOp ρ ⟨dst,.field s x i,ty,pos,after,guard⟩).run P w = .ok (.value v) w := by
 simp [execOp,Instr.field,run_underlying hu,hf,hx,asAgg,part,run_isAgg_no hd hn w,hv]
theorem r_indexAddr {t e : TypeId} {x y : Operand} {s : Sl} {k : IntKind} {i : Int} {p : Addr} {z : Value} {size bytes : Nat} (hx : ρ x = s.v) (hy : ρ y = .int k i) (hu : P.underlying t = some (.slice e)) (ht : TI P e z size bytes) (hb : 0 ≤ i ∧ i < s.n) (ha : s.a = some p) :
  (execOp ρ ⟨dst,.indexAddr t x y,ty,pos,after,guard⟩).run P w = .ok (.value (.pointer (some (p.add (i.toNat * size))))) w := by
 simp only [execOp,Instr.indexAt,hx,hy,asIntOf,Sem.run_bind,Sem.run_pure,Result.andThen_ok,run_underlying hu,Sl.v,ha,if_pos hb,ht.sizeOf w]
theorem r_indexAddrA {t e : TypeId} {x y : Operand} {n : Nat} {k : IntKind} {i : Int} {p : Addr} {z : Value} {size bytes : Nat} (hx : ρ x = .pointer (some p)) (hy : ρ y = .int k i) (hu : P.underlying t = some (.array n e)) (ht : TI P e z size bytes) (hb : 0 ≤ i ∧ i < n) :
  (execOp ρ ⟨dst,.indexAddr t x y,ty,pos,after,guard⟩).run P w = .ok (.value (.pointer (some (p.add (i.toNat * size))))) w := by
 simp only [execOp,Instr.indexAt,hx,hy,asIntOf,Sem.run_bind,Sem.run_pure,Result.andThen_ok,run_underlying hu,Instr.sureAddr,if_pos hb,ht.sizeOf w]
theorem r_sindex {t : TypeId} {x y : Operand} {s : Str} {k : IntKind} {i : Int} (hx : ρ x = .string (Bs s)) (hy : ρ y = .int k i) (hu : P.underlying t = some .string) (hb : 0 ≤ i ∧ i < s.length) :
  (execOp ρ ⟨dst,.index t x y,ty,pos,after,guard⟩).run P w = .ok (.value (.int .u8 ((s.getD i.toNat 0).toNat : Int))) w := by
 have hlt : i.toNat < s.length := by omega
 have e : (Bs s)[i.toNat]? = some (s.getD i.toNat 0) := by
  have hz : i.toNat < (Bs s).size := by rw [Bs_size]; exact hlt
  rw [getElem?_pos (Bs s) i.toNat hz]
  simp [Bs,ByteArray.getElem_eq_getElem_data,List.getD_eq_getElem?_getD,hlt]
 simp only [execOp,Instr.index,hx,hy,asIntOf,Sem.run_bind,Sem.run_pure,Result.andThen_ok,run_underlying hu,if_pos hb.1,e]
def Sl.cut (s : Sl) (size lo hi mx : Nat) : Sl := ⟨if mx = lo then s.a else s.a.map (·.add (lo * size)),hi - lo,mx - lo⟩
theorem run_sliceBound {k : IntKind} {i : Int} {y : Nat} {code : BoundsCode} (h : 0 ≤ i ∧ i ≤ y) : (Instr.sliceBound (.int k i) y code).run P w = .ok i.toNat w := by
 simp [Instr.sliceBound,asIntOf,h]
theorem r_slice2 {t e : TypeId} {x : Operand} {lo hi : Operand} {s : Sl} {j k : IntKind} {l h : Int} {z : Value} {size bytes : Nat} (hx : ρ x = s.v) (hl : ρ lo = .int j l) (hh : ρ hi = .int k h) (hu : P.underlying t = some (.slice e)) (ht : TI P e z size bytes) (hb : 0 ≤ l ∧ l ≤ h ∧ h ≤ s.c) :
  (execOp ρ ⟨dst,.slice t x (some lo) (some hi) none,ty,pos,after,guard⟩).run P w = .ok (.value (s.cut size l.toNat h.toNat s.c).v) w := by
 have h1 : 0 ≤ h ∧ h ≤ s.c := by omega
 have h2 : 0 ≤ l ∧ l ≤ (h.toNat : Int) := by omega
 simp [execOp,Instr.sliceAt,Instr.slice,Instr.sliceBounds,hx,hl,hh,Sl.v,Sl.cut,run_underlying hu,run_sliceBound h1,run_sliceBound h2,ht.sizeOf w]
theorem r_sliceH {t e : TypeId} {x : Operand} {hi : Operand} {s : Sl} {k : IntKind} {h : Int} {z : Value} {size bytes : Nat} (hx : ρ x = s.v) (hh : ρ hi = .int k h) (hu : P.underlying t = some (.slice e)) (ht : TI P e z size bytes) (hb : 0 ≤ h ∧ h ≤ s.c) :
  (execOp ρ ⟨dst,.slice t x none (some hi) none,ty,pos,after,guard⟩).run P w = .ok (.value (s.cut size 0 h.toNat s.c).v) w := by
 simp [execOp,Instr.sliceAt,Instr.slice,Instr.sliceBounds,hx,hh,Sl.v,Sl.cut,run_underlying hu,run_sliceBound hb,ht.sizeOf w]
theorem r_sliceL {t e : TypeId} {x : Operand} {lo : Operand} {s : Sl} {k : IntKind} {l : Int} {z : Value} {size bytes : Nat} (hx : ρ x = s.v) (hl : ρ lo = .int k l) (hu : P.underlying t = some (.slice e)) (ht : TI P e z size bytes) (hb : 0 ≤ l ∧ l ≤ s.n) :
  (execOp ρ ⟨dst,.slice t x (some lo) none none,ty,pos,after,guard⟩).run P w = .ok (.value (s.cut size l.toNat s.n s.c).v) w := by
 simp [execOp,Instr.sliceAt,Instr.slice,Instr.sliceBounds,hx,hl,Sl.v,Sl.cut,run_underlying hu,run_sliceBound hb,ht.sizeOf w]
theorem r_slice0 {t e : TypeId} {x : Operand} {s : Sl} {z : Value} {size bytes : Nat} (hx : ρ x = s.v) (hu : P.underlying t = some (.slice e)) (ht : TI P e z size bytes) :
  (execOp ρ ⟨dst,.slice t x none none none,ty,pos,after,guard⟩).run P w = .ok (.value (s.cut size 0 s.n s.c).v) w := by
 simp [execOp,Instr.sliceAt,Instr.slice,Instr.sliceBounds,hx,Sl.v,Sl.cut,run_underlying hu,ht.sizeOf w]
theorem r_slice3 {t e : TypeId} {x : Operand} {lo hi mx : Operand} {s : Sl} {j k q : IntKind} {l h m : Int} {z : Value} {size bytes : Nat} (hx : ρ x = s.v) (hl : ρ lo = .int j l) (hh : ρ hi = .int k h) (hm : ρ mx = .int q m) (hu : P.underlying t = some (.slice e)) (ht : TI P e z size bytes) (hb : 0 ≤ l ∧ l ≤ h ∧ h ≤ m ∧ m ≤ s.c) :
  (execOp ρ ⟨dst,.slice t x (some lo) (some hi) (some mx),ty,pos,after,guard⟩).run P w = .ok (.value (s.cut size l.toNat h.toNat m.toNat).v) w := by
 have h0 : 0 ≤ m ∧ m ≤ s.c := by omega
 have h1 : 0 ≤ h ∧ h ≤ (m.toNat : Int) := by omega
 have h2 : 0 ≤ l ∧ l ≤ (h.toNat : Int) := by omega
 simp [execOp,Instr.sliceAt,Instr.slice,Instr.sliceBounds,hx,hl,hh,hm,Sl.v,Sl.cut,run_underlying hu,run_sliceBound h0,run_sliceBound h1,run_sliceBound h2,ht.sizeOf w]
theorem r_slice3H {t e : TypeId} {x : Operand} {hi mx : Operand} {s : Sl} {k q : IntKind} {h m : Int} {z : Value} {size bytes : Nat} (hx : ρ x = s.v) (hh : ρ hi = .int k h) (hm : ρ mx = .int q m) (hu : P.underlying t = some (.slice e)) (ht : TI P e z size bytes) (hb : 0 ≤ h ∧ h ≤ m ∧ m ≤ s.c) :
  (execOp ρ ⟨dst,.slice t x none (some hi) (some mx),ty,pos,after,guard⟩).run P w = .ok (.value (s.cut size 0 h.toNat m.toNat).v) w := by
 have h0 : 0 ≤ m ∧ m ≤ s.c := by omega
 have h1 : 0 ≤ h ∧ h ≤ (m.toNat : Int) := by omega
 simp [execOp,Instr.sliceAt,Instr.slice,Instr.sliceBounds,hx,hh,hm,Sl.v,Sl.cut,run_underlying hu,run_sliceBound h0,run_sliceBound h1,ht.sizeOf w]
theorem Bs_extract (s : Str) (l h : Nat) : (Bs s).extract l h = Bs ((s.drop l).take (h - l)) := by
 apply ByteArray.ext
 simp [Bs,ByteArray.data_extract]
theorem r_sslice2 {t : TypeId} {x lo hi : Operand} {s : Str} {j k : IntKind} {l h : Int} (hx : ρ x = .string (Bs s)) (hl : ρ lo = .int j l) (hh : ρ hi = .int k h) (hu : P.underlying t = some .string) (hb : 0 ≤ l ∧ l ≤ h ∧ h ≤ s.length) :
  (execOp ρ ⟨dst,.slice t x (some lo) (some hi) none,ty,pos,after,guard⟩).run P w = .ok (.value (.string (Bs ((s.drop l.toNat).take (h.toNat - l.toNat))))) w := by
 have h1 : 0 ≤ h ∧ h ≤ ((Bs s).size : Int) := by rw [Bs_size]; omega
 have h2 : 0 ≤ l ∧ l ≤ (h.toNat : Int) := by omega
 simp [execOp,Instr.sliceAt,Instr.slice,Instr.sliceBounds,hx,hl,hh,run_underlying hu,run_sliceBound h1,run_sliceBound h2,Bs_extract]
theorem r_ssliceH {t : TypeId} {x hi : Operand} {s : Str} {k : IntKind} {h : Int} (hx : ρ x = .string (Bs s)) (hh : ρ hi = .int k h) (hu : P.underlying t = some .string) (hb : 0 ≤ h ∧ h ≤ s.length) :
  (execOp ρ ⟨dst,.slice t x none (some hi) none,ty,pos,after,guard⟩).run P w = .ok (.value (.string (Bs (s.take h.toNat)))) w := by
 have h1 : 0 ≤ h ∧ h ≤ ((Bs s).size : Int) := by rw [Bs_size]; omega
 simp [execOp,Instr.sliceAt,Instr.slice,Instr.sliceBounds,hx,hh,run_underlying hu,run_sliceBound h1,Bs_extract]
theorem r_ssliceL {t : TypeId} {x lo : Operand} {s : Str} {k : IntKind} {l : Int} (hx : ρ x = .string (Bs s)) (hl : ρ lo = .int k l) (hu : P.underlying t = some .string) (hb : 0 ≤ l ∧ l ≤ s.length) :
  (execOp ρ ⟨dst,.slice t x (some lo) none none,ty,pos,after,guard⟩).run P w = .ok (.value (.string (Bs (s.drop l.toNat)))) w := by
 have h1 : 0 ≤ l ∧ l ≤ (s.length : Int) := by omega
 have e : (s.drop l.toNat).take (s.length - l.toNat) = s.drop l.toNat := List.take_of_length_le (by simp)
 simp [execOp,Instr.sliceAt,Instr.slice,Instr.sliceBounds,hx,hl,run_underlying hu,run_sliceBound h1,Bs_extract,Bs_size,e]
def RunK (P : Program) (m : Sem Value) (w : World) (bx : List Nat) (K : Value → World → Prop) : Prop :=
 ∃ v w',m.run P w = .ok v w' ∧ NoTouch bx w w' ∧ w.heap.size ≤ w'.heap.size ∧ K v w'
theorem r_append {t u : TypeId} {x y : Operand} {v1 v2 v : Value} {w' : World} (hx : ρ x = v1) (hy : ρ y = v2) (hr : (Builtin.append_ #[t,u] ty #[v1,v2]).run P w = .ok v w') :
  (execOp ρ ⟨dst,.call { callee := .builtin .append,args := #[x,y],argTypes := #[t,u] },ty,pos,after,guard⟩).run P w = .ok (.value v) w' := by
 simp [execOp,resolve,invoke,builtin,hx,hy,hr]
theorem r_copy {t u : TypeId} {x y : Operand} {v1 v2 v : Value} {w' : World} (hx : ρ x = v1) (hy : ρ y = v2) (hr : (Builtin.copy_ #[t,u] ty #[v1,v2]).run P w = .ok v w') :
  (execOp ρ ⟨dst,.call { callee := .builtin .copy,args := #[x,y],argTypes := #[t,u] },ty,pos,after,guard⟩).run P w = .ok (.value v) w' := by
 simp [execOp,resolve,invoke,builtin,hx,hy,hr]
theorem r_convR {s d : TypeId} {x : Operand} {v1 v : Value} {w' : World} (hx : ρ x = v1) (hr : (convert s d v1).run P w = .ok v w') :
  (execOp ρ ⟨dst,.convert s d x,ty,pos,after,guard⟩).run P w = .ok (.value v) w' := by
 simp [execOp,hx,hr]
end runs
end
section
open Go.RowKit
section
variable {P : Program} {ops : Array Oper} {Q : Exit → Act → World → Prop}
def backOk (ops : Array Oper) : Bool := (List.range ops.size).all fun j => ((ops[j]?).map fun o => o.after.all fun e => !Region.binds .any e || decide (e.on < j)).getD true
def certOk (ops : Array Oper) (D : List (List Nat)) : Bool :=
 (List.range ops.size).all fun j => (D.getD j []).all fun x => decide (x < j) && ((ops[j]?).map fun o => o.after.toList.any fun e => Region.binds .any e && (e.on == x || (D.getD e.on []).contains x)).getD false
def doneOk (D : List (List Nat)) (T : List Nat) : Bool := T.all fun j => (D.getD j []).all fun x => T.contains x
def waitOk (ops : Array Oper) (D : List (List Nat)) (T S : List Nat) : Bool := (List.range ops.size).all fun j => T.contains j || S.contains j || S.all fun i => (D.getD j []).contains i
def PR (P : Program) (ops : Array Oper) (Q : Exit → Act → World → Prop) (T : List Nat) (a : Act) (w : World) : Prop :=
 ∀ fuel (listed : Array Bool),listed.size = ops.size → (∀ i,i < ops.size → (listed.getD i false = true ↔ i ∈ T)) → listed.toList.count false ≤ fuel → wpAny P .any ops Q fuel listed a w
theorem draw_region {id : Nat} {l : List Oper} {a : Act} {w : World} (hm : P.follows .mixedOrders = true) (h : PR P l.toArray Q [] a { w with drawn := w.drawn + 1 }) : (Code.region id l.toArray true).wp P Q a w := by
 refine wp_region_any hm (h _ _ (by simp) (fun i hi => ?_) ?_)
 ·simp [Array.getD_eq_getD_getElem?,Array.getElem?_replicate]
  split <;> simp
 ·simp
theorem count_set (l : Array Bool) (i : Nat) (hi : i < l.size) (h : l.getD i true = false) : (l.setIfInBounds i true).toList.count false + 1 = l.toList.count false := by
 have hv : l[i] = false := by simpa [Array.getD,hi] using h
 have hv' : l.toList[i]'(by simpa using hi) = false := by simpa using hv
 have hpos : 0 < l.toList.count false := List.count_pos_iff.2 (by rw [← hv']; exact List.getElem_mem _)
 have h3 := List.count_set (l := l.toList) (i := i) (a := true) (b := false) (by simpa using hi)
 rw [hv'] at h3
 rw [Array.toList_setIfInBounds,h3]
 simp only [beq_self_eq_true,if_true,show (true == false) = false from rfl,Bool.false_eq_true,if_false]
 omega
theorem getD_set (l : Array Bool) (i j : Nat) (hi : i < l.size) (d : Bool) : (l.setIfInBounds i true).getD j d = if j = i then true else l.getD j d := by
 by_cases e : j = i
 ·subst e; simp [Array.getD,hi]
 ·rw [if_neg e]; simp [Array.getD_eq_getD_getElem?,Array.getElem?_setIfInBounds_ne (fun h => e h.symm)]
theorem ready_some (hb : backOk ops = true) {listed : Array Bool} (hs : listed.size = ops.size) (i : Nat) (hi : i < ops.size) (hl : listed.getD i false = false) : Region.ready .any ops listed ≠ [] := by
 have key : ∀ n,∀ i,i ≤ n → i < ops.size → listed.getD i false = false → ∃ j,j ∈ Region.ready .any ops listed := by
  intro n
  induction n with
  |zero =>
   intro i h0 hi hl
   obtain rfl : i = 0 := by omega
   refine ⟨0,mem_ready.2 ⟨by simpa [Array.getD,hs,hi] using hl,ops[0],by simp [hi],fun e he hbd => ?_⟩⟩
   exfalso
   simp only [backOk,List.all_eq_true,List.mem_range] at hb
   have := hb 0 hi
   simp only [Array.getElem?_eq_getElem hi,Option.map_some,Option.getD_some,Array.all_eq_true_iff_forall_mem] at this
   have := this e he
   simp [hbd] at this
  |succ n ih =>
   intro i h0 hi hl
   by_cases hall : ∀ j,j < i → listed.getD j false = true
   ·refine ⟨i,mem_ready.2 ⟨by simpa [Array.getD,hs,hi] using hl,ops[i],by simp [hi],fun e he hbd => ?_⟩⟩
    simp only [backOk,List.all_eq_true,List.mem_range] at hb
    have := hb i hi
    simp only [Array.getElem?_eq_getElem hi,Option.map_some,Option.getD_some,Array.all_eq_true_iff_forall_mem] at this
    have := this e he
    simp [hbd] at this
    exact hall _ this
   ·have ⟨j,hj⟩ := Classical.not_forall.1 hall
    have ⟨hj1,hj2⟩ := Classical.not_imp.1 hj
    exact ih j (by omega) (by omega) (by simpa using hj2)
 obtain ⟨j,hj⟩ := key i i (Nat.le_refl _) hi hl
 intro h
 rw [h] at hj; cases hj
theorem cert_listed {D : List (List Nat)} (hc : certOk ops D = true) {listed : Array Bool} (hdc : ∀ j,listed.getD j false = true → ∀ x ∈ D.getD j [],listed.getD x false = true) {j : Nat} (hj : j ∈ Region.ready .any ops listed) :
  ∀ x ∈ D.getD j [],listed.getD x false = true := by
 intro x hx
 obtain ⟨h1,o,ho,h2⟩ := mem_ready.1 hj
 have hlt : j < ops.size := (Array.getElem?_eq_some_iff.1 ho).1
 simp only [certOk,List.all_eq_true,List.mem_range] at hc
 have := hc j hlt x hx
 rw [ho] at this
 simp only [Option.map_some,Option.getD_some,Bool.and_eq_true,List.any_eq_true] at this
 obtain ⟨_,e,he,hbe⟩ := this
 simp only [Bool.or_eq_true,beq_iff_eq,List.contains_iff_mem] at hbe
 obtain ⟨hb1,hb2⟩ := hbe
 have hl := h2 e (Array.mem_toList_iff.1 he) hb1
 rcases hb2 with rfl | hb2
 ·exact hl
 ·exact hdc _ hl x hb2
theorem wpOp_of_opK {i : Nat} {o : Oper} {K : Act → World → Prop} {a : Act} {w : World} (ho : ops[i]? = some o) (h : opK P ops Q o K a w) : wpOp P ops Q i K a w := by
 unfold wpOp
 simp only [ho]
 unfold opK at h
 split
 ·rename_i hw; rw [if_pos hw] at h; exact .inl h
 ·rename_i hw; rw [if_neg hw] at h; exact h
theorem PR_end {T : List Nat} {a : Act} {w : World} (hT : ((List.range ops.size).all fun i => T.contains i) = true) (h : Q .normal a w) : PR P ops Q T a w := by
 intro fuel listed hs hl _
 have hr : Region.ready .any ops listed = [] := by
  cases he : Region.ready .any ops listed with
  |nil => rfl
  |cons j r =>
   have hj : j ∈ Region.ready .any ops listed := by rw [he]; exact List.mem_cons_self ..
   obtain ⟨h1,o,ho,_⟩ := mem_ready.1 hj
   have hlt : j < ops.size := (Array.getElem?_eq_some_iff.1 ho).1
   simp only [List.all_eq_true,List.mem_range,List.contains_iff_mem] at hT
   have := (hl j hlt).2 (hT j hlt)
   simp [Array.getD,hs,hlt] at this h1
   rw [h1] at this; cases this
 cases fuel with
 |zero => exact ⟨hr,h⟩
 |succ n => exact ⟨fun _ => h,fun i hi => by rw [hr] at hi; cases hi⟩
structure Mid (D : List (List Nat)) (T S : List Nat) (ops : Array Oper) (F : List Nat) (V : Nat → Value → World → Prop) (a0 : Act) (w0 : World) (listed : Array Bool) (a : Act) (w : World) : Prop where
 size : listed.size = ops.size
 only : ∀ i,listed.getD i false = true → i ∈ T ∨ i ∈ S
 old : ∀ i ∈ T,i < ops.size → listed.getD i false = true
 closed : ∀ j,listed.getD j false = true → ∀ x ∈ D.getD j [],listed.getD x false = true
 chg : Chg F w0 w
 tsize : a.tmps.size = a0.tmps.size
 defers : a.defers = a0.defers
 same : ∀ t,(∀ i ∈ S,(ops[i]?).bind (·.dst) ≠ some t) → a.tmps.getD t undef = a0.tmps.getD t undef
 vals : ∀ i ∈ S,listed.getD i false = true → ∀ t,(ops[i]?).bind (·.dst) = some t → V i (a.tmps.getD t undef) w
def apartOk (T S : List Nat) : Bool := S.all fun i => !T.contains i
def dstOk (ops : Array Oper) (S : List Nat) : Bool := S.all fun i => S.all fun j => i == j || ((ops[i]?).bind (·.dst)).isNone || (ops[i]?).bind (·.dst) != (ops[j]?).bind (·.dst)
def inOk (ops : Array Oper) (n : Nat) (S : List Nat) : Bool := S.all fun i => decide (i < ops.size) && (((ops[i]?).bind (·.dst)).map fun d => decide (d < n)).getD true
theorem PR_seg {D : List (List Nat)} {T S : List Nat} {F : List Nat} {V : Nat → Value → World → Prop} {n : Nat} {a0 : Act} {w0 : World} {L : List (Nat × Value)} (hA : Ag n a0 L)
  (hb : backOk ops = true) (hc : certOk ops D = true) (hd : doneOk D T = true) (hw : waitOk ops D T S = true) (hdst : dstOk ops S = true) (hin : inOk ops n S = true) (hap : apartOk T S = true)
  (stab : ∀ i ∈ S,∀ v w w',Chg F w w' → V i v w → V i v w')
  (each : ∀ i ∈ S,∀ o,ops[i]? = some o → ∀ a w,a.tmps.size = n → a.defers = [] → Chg F w0 w → (∀ t,(∀ j ∈ S,(ops[j]?).bind (·.dst) ≠ some t) → a.tmps.getD t undef = a0.tmps.getD t undef) →
   (∀ j ∈ S,j ∈ D.getD i [] → ∀ t,(ops[j]?).bind (·.dst) = some t → V j (a.tmps.getD t undef) w) →
   opK P ops Q o (fun a' w' => ∃ v,a' = a.put o.dst v ∧ Chg F w w' ∧ (o.dst.isSome = true → V i v w')) a w)
  (fin : ∀ a w,a.tmps.size = n → a.defers = [] → Chg F w0 w → (∀ t,(∀ j ∈ S,(ops[j]?).bind (·.dst) ≠ some t) → a.tmps.getD t undef = a0.tmps.getD t undef) →
   (∀ j ∈ S,∀ t,(ops[j]?).bind (·.dst) = some t → V j (a.tmps.getD t undef) w) → PR P ops Q (T ++ S) a w) : PR P ops Q T a0 w0 := by
 have key : ∀ fuel listed a w,Mid D T S ops F V a0 w0 listed a w → listed.toList.count false ≤ fuel → wpAny P .any ops Q fuel listed a w := by
  intro fuel
  induction fuel with
  |zero =>
   intro listed a w hM hcount
   have hall : ∀ i,i < ops.size → listed.getD i false = true := by
    intro i hi
    have h0 : listed.toList.count false = 0 := by omega
    have hn := List.count_eq_zero.1 h0
    have hsz : i < listed.size := by rw [hM.size]; exact hi
    cases hv : listed[i] with
    |true => simp [Array.getD,hsz,hv]
    |false => exact absurd (by rw [← hv]; exact Array.mem_toList_iff.2 (Array.getElem_mem hsz)) hn
   refine fin a w (by rw [hM.tsize,hA.size]) (by rw [hM.defers,hA.defs]) hM.chg hM.same (fun j hj t ht => ?_) 0 listed hM.size (fun i hi => ?_) hcount
   ·refine hM.vals j hj (hall j ?_) t ht
    cases ho : ops[j]? with
    |none => rw [ho] at ht; cases ht
    |some o => exact (Array.getElem?_eq_some_iff.1 ho).1
   ·exact ⟨fun h => List.mem_append.2 (hM.only i h),fun _ => hall i hi⟩
  |succ fuel ih =>
   intro listed a w hM hcount
   by_cases hall : ∀ i ∈ S,listed.getD i false = true
   ·refine fin a w (by rw [hM.tsize,hA.size]) (by rw [hM.defers,hA.defs]) hM.chg hM.same (fun j hj t ht => hM.vals j hj (hall j hj) t ht) (fuel + 1) listed hM.size (fun i hi => ?_) hcount
    exact ⟨fun h => List.mem_append.2 (hM.only i h),fun h => (List.mem_append.1 h).elim (fun h => hM.old i h hi) (fun h => hall i h)⟩
   ·have ⟨i0,hi0⟩ := Classical.not_forall.1 hall
    have ⟨hi0S,hi0l⟩ := Classical.not_imp.1 hi0
    have hi0l' : listed.getD i0 false = false := by simpa using hi0l
    simp only [inOk,List.all_eq_true,Bool.and_eq_true,decide_eq_true_eq] at hin
    have hrs := ready_some hb hM.size i0 (hin i0 hi0S).1 hi0l'
    refine ⟨fun h => absurd h hrs,fun i hi => ?_⟩
    have hcl := cert_listed hc hM.closed hi
    obtain ⟨h1,o,ho,h2⟩ := mem_ready.1 hi
    have hlt : i < ops.size := (Array.getElem?_eq_some_iff.1 ho).1
    have hil : listed.getD i false = false := by simp [Array.getD,hM.size,hlt] at h1 ⊢; exact h1
    have hiS : i ∈ S := by
     simp only [waitOk,List.all_eq_true,List.mem_range,Bool.or_eq_true,List.contains_iff_mem] at hw
     rcases hw i hlt with (hT | hS) | hall'
     ·rw [hM.old i hT hlt] at hil; cases hil
     ·exact hS
     ·have := hcl i0 (hall' i0 hi0S)
      rw [hi0l'] at this; cases this
    refine wpOp_of_opK ho (opK_mono (each i hiS o ho a w (by rw [hM.tsize,hA.size]) (by rw [hM.defers,hA.defs]) hM.chg hM.same (fun j hj hjD t ht => hM.vals j hj (hcl j hjD) t ht)) fun a' w' ⟨v,hav,hchg,hV⟩ => ?_)
    refine ih _ a' w' ?_ (by have := count_set listed i (by rw [hM.size]; exact hlt) h1; omega)
    have hils : i < listed.size := by rw [hM.size]; exact hlt
    subst hav
    have hdsti : (ops[i]?).bind (·.dst) = o.dst := by rw [ho]; rfl
    refine ⟨by simp [hM.size],fun j hj => ?_,fun j hj hjl => ?_,fun j hj x hx => ?_,hM.chg.trans hchg,?_,?_,fun t ht => ?_,fun j hj hjl t ht => ?_⟩
    ·rw [getD_set _ _ _ hils] at hj
     split at hj
     ·rename_i e; exact .inr (e ▸ hiS)
     ·exact hM.only j hj
    ·rw [getD_set _ _ _ hils]
     split
     ·rfl
     ·exact hM.old j hj hjl
    ·rw [getD_set _ _ _ hils] at hj ⊢
     split
     ·rfl
     ·split at hj
      ·rename_i e; subst e; exact hcl x hx
      ·exact hM.closed j hj x hx
    ·cases hd' : o.dst <;> simp [Act.put,hM.tsize]
    ·cases hd' : o.dst <;> simp [Act.put,hM.defers]
    ·have hne : o.dst ≠ some t := by rw [← hdsti]; exact ht i hiS
     rw [← hM.same t ht]
     cases hd' : o.dst with
     |none => rfl
     |some d => exact getD_setIfInBounds_ne _ _ _ _ _ (fun e => hne (by rw [hd',e]))
    ·by_cases e : j = i
     ·subst e
      rw [hdsti] at ht
      rw [ht] at hV ⊢
      have hdn : t < a.tmps.size := by
       have := (hin j hj).2
       rw [hdsti,ht] at this
       rw [hM.tsize,hA.size]
       simpa using this
      show V j ((a.tmps.setIfInBounds t v).getD t undef) w'
      rw [getD_setIfInBounds_self _ _ _ _ hdn]
      exact hV rfl
     ·have hjl' : listed.getD j false = true := by
       rw [getD_set _ _ _ hils,if_neg e] at hjl; exact hjl
      have hv := stab j hj _ _ _ hchg (hM.vals j hj hjl' t ht)
      have hne : o.dst ≠ some t := by
       intro h
       simp only [dstOk,List.all_eq_true,Bool.or_eq_true,beq_iff_eq,bne_iff_ne] at hdst
       rcases hdst i hiS j hj with (h' | h') | h'
       ·exact e h'.symm
       ·rw [hdsti,h] at h'; cases h'
       ·exact h' (by rw [hdsti,h,ht])
      cases hd' : o.dst with
      |none => exact hv
      |some d =>
       show V j ((a.tmps.setIfInBounds d v).getD t undef) w'
       rw [getD_setIfInBounds_ne _ _ _ _ _ (fun e' => hne (by rw [hd',e']))]
       exact hv
 intro fuel listed hs hl hcount
 refine key fuel listed a0 w0 ⟨hs,fun i hi => ?_,fun i hi hlt => (hl i hlt).2 hi,fun j hj x hx => ?_,Chg.refl _ _,rfl,rfl,fun _ _ => rfl,fun i hi hli t ht => ?_⟩ hcount
 ·have hlt : i < ops.size := by
   rcases Nat.lt_or_ge i ops.size with h | h
   ·exact h
   ·simp [Array.getD,hs,Nat.not_lt.2 h] at hi
  exact .inl ((hl i hlt).1 hi)
 ·have hlt : j < ops.size := by
   rcases Nat.lt_or_ge j ops.size with h | h
   ·exact h
   ·simp [Array.getD,hs,Nat.not_lt.2 h] at hj
  have hjT := (hl j hlt).1 hj
  simp only [doneOk,List.all_eq_true,List.contains_iff_mem] at hd
  have hxT := hd j hjT x hx
  have hxlt : x < ops.size := by
   simp only [certOk,List.all_eq_true,List.mem_range,Bool.and_eq_true,decide_eq_true_eq] at hc
   have := (hc j hlt x hx).1
   omega
  exact (hl x hxlt).2 hxT
 ·have hlt : i < ops.size := by
   cases ho : ops[i]? with
   |none => rw [ho] at ht; cases ht
   |some o => exact (Array.getElem?_eq_some_iff.1 ho).1
  have hiT := (hl i hlt).1 hli
  simp only [apartOk,List.all_eq_true,Bool.not_eq_true',← Bool.not_eq_true,List.contains_iff_mem] at hap
  exact absurd hiT (hap i hi)
theorem PR_one {D : List (List Nat)} {T : List Nat} {i : Nat} {o : Oper} {a : Act} {w : World} (hb : backOk ops = true) (hc : certOk ops D = true) (hd : doneOk D T = true) (hw : waitOk ops D T [i] = true) (hap : apartOk T [i] = true)
  (ho : ops[i]? = some o) (h : opK P ops Q o (PR P ops Q (T ++ [i])) a w) : PR P ops Q T a w := by
 intro fuel listed hs hl hcount
 have hlt : i < ops.size := (Array.getElem?_eq_some_iff.1 ho).1
 have hiT : i ∉ T := by
  simp only [apartOk,List.all_eq_true,Bool.not_eq_true',← Bool.not_eq_true,List.contains_iff_mem] at hap
  exact hap i (by simp)
 have hil : listed.getD i false = false := by
  cases hh : listed.getD i false with
  |false => rfl
  |true => exact absurd ((hl i hlt).1 hh) hiT
 have hdc : ∀ j,listed.getD j false = true → ∀ x ∈ D.getD j [],listed.getD x false = true := by
  intro j hj x hx
  have hjlt : j < ops.size := by
   rcases Nat.lt_or_ge j ops.size with h | h
   ·exact h
   ·simp [Array.getD,hs,Nat.not_lt.2 h] at hj
  have hjT := (hl j hjlt).1 hj
  simp only [doneOk,List.all_eq_true,List.contains_iff_mem] at hd
  have hxT := hd j hjT x hx
  simp only [certOk,List.all_eq_true,List.mem_range,Bool.and_eq_true,decide_eq_true_eq] at hc
  have := (hc j hjlt x hx).1
  exact (hl x (by omega)).2 hxT
 have hrs := ready_some hb hs i hlt hil
 have honly : ∀ j ∈ Region.ready .any ops listed,j = i := by
  intro j hj
  have hcl := cert_listed hc hdc hj
  obtain ⟨h1,o',ho',h2⟩ := mem_ready.1 hj
  have hjlt : j < ops.size := (Array.getElem?_eq_some_iff.1 ho').1
  simp only [waitOk,List.all_eq_true,List.mem_range,Bool.or_eq_true,List.contains_iff_mem,List.mem_singleton] at hw
  rcases hw j hjlt with (hT | hS) | hall
  ·have := (hl j hjlt).2 hT
   simp [Array.getD,hs,hjlt] at this h1
   rw [h1] at this; cases this
  ·exact hS
  ·have := hcl i (hall i rfl)
   rw [hil] at this; cases this
 cases fuel with
 |zero =>
  exfalso
  have h0 : listed.toList.count false = 0 := by omega
  have hn := List.count_eq_zero.1 h0
  have hsz : i < listed.size := by rw [hs]; exact hlt
  have hv : listed[i] = false := by simpa [Array.getD,hsz] using hil
  exact hn (by rw [← hv]; exact Array.mem_toList_iff.2 (Array.getElem_mem hsz))
 |succ fuel =>
  refine ⟨fun hh => absurd hh hrs,fun j hj => ?_⟩
  obtain rfl := honly j hj
  have hils : j < listed.size := by rw [hs]; exact hlt
  have h1 : listed.getD j true = false := by simp [Array.getD,hils] at hil ⊢; exact hil
  refine wpOp_of_opK ho (opK_mono h fun a' w' hk => hk fuel _ (by simp [hs]) (fun i hi => ?_) (by have := count_set listed j hils h1; omega))
  rw [getD_set _ _ _ hils]
  split
  ·rename_i e; subst e; simp
  ·rename_i e
   rw [hl i hi]
   simp [e]
end
end
section
open Go.RowKit
def I64 (x : Int) : Prop := -9223372036854775808 ≤ x ∧ x ≤ 9223372036854775807
theorem wrapI {x : Int} (h : I64 x) : IntKind.i64.wrap x = x := by
 obtain ⟨h1,h2⟩ := h
 rw [IntKind.wrap_i64]; omega
section runs
variable {P : Program} {ρ : Operand → Value} {w : World} {dst : Option Nat} {ty : TypeId} {pos : String} {after : Array Edge} {guard : Option (Nat × Bool)}
theorem r_addI {t yt : TypeId} {x y : Operand} {p q : Int} (hx : ρ x = .int .i64 p) (hy : ρ y = .int .i64 q) (h : I64 (p + q)) :
  (execOp ρ ⟨dst,.binOp .add t x y yt,ty,pos,after,guard⟩).run P w = .ok (.value (.int .i64 (p + q))) w := by rw [r_add hx hy,wrapI h]
theorem r_subI {t yt : TypeId} {x y : Operand} {p q : Int} (hx : ρ x = .int .i64 p) (hy : ρ y = .int .i64 q) (h : I64 (p - q)) :
  (execOp ρ ⟨dst,.binOp .sub t x y yt,ty,pos,after,guard⟩).run P w = .ok (.value (.int .i64 (p - q))) w := by rw [r_sub hx hy,wrapI h]
theorem r_mulI {t yt : TypeId} {x y : Operand} {p q : Int} (hx : ρ x = .int .i64 p) (hy : ρ y = .int .i64 q) (h : I64 (p * q)) :
  (execOp ρ ⟨dst,.binOp .mul t x y yt,ty,pos,after,guard⟩).run P w = .ok (.value (.int .i64 (p * q))) w := by rw [r_mul hx hy,wrapI h]
theorem r_convI {s d : TypeId} {x : Operand} {k' : IntKind} {p : Int} (hx : ρ x = .int k' p) (hs : (P.underlying s).isSome = true) (hd : P.underlying d = some (.int .i64)) (h : I64 p) :
  (execOp ρ ⟨dst,.convert s d x,ty,pos,after,guard⟩).run P w = .ok (.value (.int .i64 p)) w := by rw [r_conv hx hs hd,wrapI h]
theorem r_build {t : TypeId} {parts : Array (Nat × Operand)} {vs : Array (Nat × Value)} {fs : Array Field} {places : Array (Nat × Nat)} {cells : Array Value} {z : Value} {size bytes : Nat}
  (hp : (parts.map fun (i,x) => (i,ρ x)) = vs) (hz : TI P t z size bytes) (hu : P.underlying t = some (.struct fs)) (hpl : ∀ w,(fs.mapM fun (f : Field) => (do pure (f.offset,← sizeOf f.type) : Sem (Nat × Nat))).run P w = .ok places w)
  (hf : Instr.fill (places[·]?) z.cells vs.toList = some cells) :
  (execOp ρ ⟨dst,.build t parts,ty,pos,after,guard⟩).run P w = .ok (.value (.agg cells)) w := by
 have hpl' := hpl w
 simp only [execOp,hp,Instr.build,Sem.run_bind,hz.zeroValue w,Result.andThen_ok,run_underlying hu]
 rw [hpl']
 simp [hf]
theorem r_buildA {t e n : TypeId} {parts : Array (Nat × Operand)} {vs : Array (Nat × Value)} {cells : Array Value} {z ze : Value} {size bytes esize ebytes : Nat}
  (hp : (parts.map fun (i,x) => (i,ρ x)) = vs) (hz : TI P t z size bytes) (hu : P.underlying t = some (.array n e)) (he : TI P e ze esize ebytes)
  (hf : Instr.fill (fun i => some (i * esize,esize)) z.cells vs.toList = some cells) :
  (execOp ρ ⟨dst,.build t parts,ty,pos,after,guard⟩).run P w = .ok (.value (.agg cells)) w := by
 simp only [execOp,hp,Instr.build,Sem.run_bind,hz.zeroValue w,Result.andThen_ok,run_underlying hu,he.sizeOf w]
 simp [hf]
theorem r_buildSlice {t e len : TypeId} {parts : Array (Nat × Operand)} {vs : Array (Nat × Value)} {cs : List Value} {ze : Value} {esize ebytes : Nat}
  (hp : (parts.map fun (i,x) => (i,ρ x)) = vs) (hu : P.underlying t = some (.slice e)) (he : TI P e ze esize ebytes) (hle : Nat.ble (len * esize) (2 ^ 24) = true) (h0 : Nat.blt 0 (len * esize) = true)
  (hf : Instr.fill (fun i => some (i * esize,esize)) ((Array.range (len * esize)).map (ze.cells[· % ze.cells.size]!)) vs.toList = some cs.toArray) :
  (execOp ρ ⟨dst,.buildSlice t len parts,ty,pos,after,guard⟩).run P w = .ok (.value (.slice (some ⟨w.heap.size,0,none⟩) len len)) (w.alloc (.cells cs.toArray e (0,0))) := by
 have h1' : len * esize ≤ 2 ^ 24 := Nat.le_of_ble_eq_true hle
 have h1 : ¬ len * esize > 2 ^ 24 := Nat.not_lt.2 h1'
 have h2' : 0 < len * esize := by simpa [Nat.blt_eq] using h0
 have h2 : ¬ len * esize = 0 := Nat.ne_of_gt h2'
 simp only [execOp,hp,Instr.buildSlice,Sem.run_bind,run_underlying hu,Result.andThen_ok,he.sizeOf w,if_neg h1,if_neg h2,he.zeroValue w,hf,Sem.run_pure]
 simp only [newRow,newObj]
 rfl
theorem r_makeFunc {fn : Fn} {xs ys : Array Operand} {f c : Array Value} (hx : xs.map ρ = f) (hy : ys.map ρ = c) :
  (execOp ρ ⟨dst,.makeFunc fn xs ys,ty,pos,after,guard⟩).run P w = .ok (.value (.func fn f c)) w := by
 simp [execOp,Instr.makeFunc,hx,hy]
theorem r_callV {x : Operand} {f : FuncId} {fn : Func} {xs : Array Operand} {ts : Array TypeId} {args fst cap : Array Value} (hf : P.funcs[f]? = some fn) (hn : fn.name ≠ "runtime.NumGoroutine") (hb : fn.body.isSome = true) (hx : xs.map ρ = args) (hρ : ρ x = .func (.func f) fst cap) :
  (execOp ρ ⟨dst,.call { callee := .value x,args := xs,argTypes := ts },ty,pos,after,guard⟩).run P w = .ok (.enter f (fst ++ args ++ cap)) w := by
 have e : program.run P w = .ok P w := rfl
 have hb' : fn.body.isNone = false := by cases h : fn.body <;> simp_all
 have hn' : (fn.name == "runtime.NumGoroutine") = false := by simpa using hn
 simp only [execOp,resolve,invoke,hρ,Deferred.ofValue,callFunc,hx]
 simp only [Sem.run_bind,Sem.run_pure,Result.andThen_ok,e,hf,hn',hb']
 simp
end runs
theorem cv_get {a : Act} {x : Operand} {g : Bool} {v : Value} (h : a.eval x = cV g v) (hg : g = true) : a.eval x = v := by rw [h,hg,cV_true]
theorem g_up {g h : Bool} (hg : (g && h) = true) : g = true := by cases g <;> simp_all
section ops
variable {P : Program} {ops : Array Oper} {Q : Exit → Act → World → Prop} {K : Act → World → Prop} {n : Nat} {a : Act} {w : World} {L : List (Nat × Value)}
theorem New.up {wa w w' : World} {B : Nat} (h : New wa B w) (hs : w.heap.size ≤ w'.heap.size) : New wa B w' := ⟨h.ge,Nat.lt_of_lt_of_le h.lt hs⟩
theorem New.of {wa w w' : World} {B : Nat} {F : List Nat} (c : Chg F wa w) (h : New w B w') : New wa B w' := ⟨Nat.le_trans c.size h.ge,h.lt⟩
theorem Chg.more {F : List Nat} {wa w w' : World} (c : Chg F wa w) (h : Ext w w') : Chg F wa w' := c.trans (Chg.ext h)
theorem Chg.storeNew {F : List Nat} {wa w w' : World} {B : Nat} (c : Chg F wa w) (hn : New wa B w) (h : Chg [B] w w') : Chg F wa w' :=
 ⟨h.os.trans c.os,h.tape.trans c.tape,h.output.trans c.output,Nat.le_trans c.size h.size,
  fun i hi hF => (h.block i (Nat.lt_of_lt_of_le hi c.size) (by have := hn.ge; simp; omega)).trans (c.block i hi hF)⟩
theorem Chg.storeOld {F : List Nat} {wa w w' : World} {B : Nat} (c : Chg F wa w) (h : Chg [B] w w') : Chg (B :: F) wa w' :=
 (c.mono (G := B :: F) (fun x hx => List.mem_cons_of_mem _ hx)).trans (h.mono (fun x hx => by simp at hx; simp [hx]))
theorem opk_new {d : Nat} {op : Op} {ty : TypeId} {pos : String} {after : Array Edge} {T : TypeId} {cs : List Value} (f : Nat → Value) (hA : Ag n a L) (hd : Nat.blt d n = true)
  (hrun : (execOp a.eval ⟨some d,op,ty,pos,after,none⟩).run P w = .ok (.value (f w.heap.size)) (w.alloc (.cells cs.toArray T (0,0))))
  (k : ∀ a' w' B,Ext w w' → New w B w' → Box w' B T cs → Ag n a' ((d,f B) :: L) → a' = a.put (some d) (f B) → K a' w') : opK P ops Q ⟨some d,op,ty,pos,after,none⟩ K a w :=
 opk_val hA hd hrun fun a' h e => k a' _ w.heap.size (Ext.alloc _ _) ⟨Nat.le_refl _,by simp⟩ (Box.alloc _ _ _) h e
theorem opk_store {op : Op} {ty : TypeId} {pos : String} {after : Array Edge} {B o : Nat} {T : TypeId} {cs vs : List Value} (hA : Ag n a L) (hb : Box w B T cs)
  (hrun : (execOp a.eval ⟨none,op,ty,pos,after,none⟩).run P w = .ok .skip (setCells w B o vs))
  (k : ∀ a' w',Chg [B] w w' → Box w' B T (putAt cs o vs) → Ag n a' L → K a' w') : opK P ops Q ⟨none,op,ty,pos,after,none⟩ K a w :=
 opk_skip hA hrun fun a' h => k a' _ (setCells_chg B vs w o) (setCells_box vs hb) h
theorem opk_run {d : Nat} {op : Op} {ty : TypeId} {pos : String} {after : Array Edge} {m : Sem Value} {bx : List Nat} {R : Value → World → Prop} (hA : Ag n a L) (hd : Nat.blt d n = true)
  (hrun : ∀ v w',m.run P w = .ok v w' → (execOp a.eval ⟨some d,op,ty,pos,after,none⟩).run P w = .ok (.value v) w') (hk : RunK P m w bx R)
  (k : ∀ a' v w',Ag n a' ((d,v) :: L) → a' = a.put (some d) v → NoTouch bx w w' → w.heap.size ≤ w'.heap.size → R v w' → K a' w') : opK P ops Q ⟨some d,op,ty,pos,after,none⟩ K a w := by
 obtain ⟨v,w',h1,h2,h3,h4⟩ := hk
 exact opk_val hA hd (hrun v w' h1) fun a' h e => k a' v w' h e h2 h3 h4
def VL : List (Nat × (Value → World → Prop)) → Nat → Value → World → Prop
 |[],_,_,_ => True
 |(k,p) :: r,i,v,w => bif Nat.beq i k then p v w else VL r i v w
def EachS (ops : Array Oper) (f : Nat → Oper → Prop) : List Nat → Prop
 |[] => True
 |i :: r => ((ops[i]?).elim True (f i)) ∧ EachS ops f r
theorem EachS.mem {f : Nat → Oper → Prop} : ∀ {S : List Nat},EachS ops f S → ∀ i ∈ S,∀ o,ops[i]? = some o → f i o
 |[],_,i,hi,_,_ => by cases hi
 |j :: r,⟨h1,h2⟩,i,hi,o,ho => by
  rcases List.mem_cons.1 hi with rfl | hi
  ·rw [ho] at h1; exact h1
  ·exact h2.mem i hi o ho
def StabS (F : List Nat) (V : Nat → Value → World → Prop) : List Nat → Prop
 |[] => True
 |i :: r => (∀ v w w',Chg F w w' → V i v w → V i v w') ∧ StabS F V r
theorem StabS.mem {F : List Nat} {V : Nat → Value → World → Prop} : ∀ {S : List Nat},StabS F V S → ∀ i ∈ S,∀ v w w',Chg F w w' → V i v w → V i v w'
 |[],_,i,hi => by cases hi
 |j :: r,⟨h1,h2⟩,i,hi => by
  rcases List.mem_cons.1 hi with rfl | hi
  ·exact h1
  ·exact h2.mem i hi
structure Turn (ops : Array Oper) (D : List (List Nat)) (S F : List Nat) (V : Nat → Value → World → Prop) (n : Nat) (a0 : Act) (w0 : World) (i : Nat) (a : Act) (w : World) : Prop where
 size : a.tmps.size = n
 defs : a.defers = []
 chg : Chg F w0 w
 same : ∀ t,(∀ j ∈ S,(ops[j]?).bind (·.dst) ≠ some t) → a.tmps.getD t undef = a0.tmps.getD t undef
 vals : ∀ j,(S.contains j && (D.getD i []).contains j) = true → ∀ t,(ops[j]?).bind (·.dst) = some t → V j (a.tmps.getD t undef) w
def keysOk (ops : Array Oper) (S : List Nat) (L : List (Nat × Value)) : Bool := L.all fun p => S.all fun j => (ops[j]?).bind (·.dst) != some p.1
theorem same_ag {S : List Nat} {a0 : Act} (hA : Ag n a0 L) (hs : a.tmps.size = n) (hd : a.defers = []) (hsame : ∀ t,(∀ j ∈ S,(ops[j]?).bind (·.dst) ≠ some t) → a.tmps.getD t undef = a0.tmps.getD t undef)
  (L' : List (Nat × Value)) (hsub : SubL L L') (hk : keysOk ops S L' = true) : Ag n a L' := by
 refine ⟨hs,hd,fun t v hv => ?_⟩
 have hmem : ∀ (M : List (Nat × Value)),lookupL t M = some v → ∃ u,(t,u) ∈ M := by
  intro M
  induction M with
  |nil => intro h; simp [lookupL] at h
  |cons p M ih =>
   obtain ⟨d,u⟩ := p
   intro h
   simp only [lookupL] at h
   cases hb : Nat.beq t d
   ·rw [hb] at h
    obtain ⟨u',hu'⟩ := ih (by simpa using h)
    exact ⟨u',List.mem_cons_of_mem _ hu'⟩
   ·have e : t = d := Nat.eq_of_beq_eq_true hb
    subst e
    exact ⟨u,List.mem_cons_self ..⟩
 obtain ⟨u,hu⟩ := hmem L' hv
 simp only [keysOk,List.all_eq_true,bne_iff_ne] at hk
 rw [hsame t (fun j hj => hk (t,u) hu j hj)]
 exact hA.val t v (hsub.look t v hv)
theorem Turn.ag {D : List (List Nat)} {S F : List Nat} {V : Nat → Value → World → Prop} {a0 : Act} {w0 : World} {i : Nat} (h : Turn ops D S F V n a0 w0 i a w) (hA : Ag n a0 L) (L' : List (Nat × Value)) (hsub : SubL L L') (hk : keysOk ops S L' = true) : Ag n a L' :=
 same_ag hA h.size h.defs h.same L' hsub hk
theorem Ag.add (h : Ag n a L) {t : Nat} {v : Value} (e : a.tmps.getD t undef = v) : Ag n a ((t,v) :: L) := by
 refine ⟨h.size,h.defs,fun s x hx => ?_⟩
 simp only [lookupL] at hx
 cases hb : Nat.beq s t
 ·rw [hb] at hx; exact h.val s x (by simpa using hx)
 ·rw [hb] at hx
  have e' : s = t := Nat.eq_of_beq_eq_true hb
  subst e'
  rw [e]; simpa using hx
def Over (F : List Nat) (V : Nat → Value → World → Prop) (i : Nat) (dst : Option Nat) (a : Act) (w : World) (a' : Act) (w' : World) : Prop := ∃ v,a' = a.put dst v ∧ Chg F w w' ∧ (dst.isSome = true → V i v w')
theorem par {D : List (List Nat)} {T S : List Nat} {F : List Nat} {V : Nat → Value → World → Prop} {a0 : Act} {w0 : World} (hA : Ag n a0 L)
  (hchk : (backOk ops && certOk ops D && doneOk D T && waitOk ops D T S && dstOk ops S && inOk ops n S && apartOk T S) = true)
  (stab : StabS F V S)
  (each : EachS ops (fun i o => ∀ a w,Turn ops D S F V n a0 w0 i a w → opK P ops Q o (Over F V i o.dst a w) a w) S)
  (fin : ∀ a w,Chg F w0 w → (∀ L',SubL L L' → keysOk ops S L' = true → Ag n a L') → (∀ j,S.contains j = true → ∀ t,(ops[j]?).bind (·.dst) = some t → V j (a.tmps.getD t undef) w) → PR P ops Q (T ++ S) a w) : PR P ops Q T a0 w0 := by
 simp only [Bool.and_eq_true] at hchk
 obtain ⟨⟨⟨⟨⟨⟨h1,h2⟩,h3⟩,h4⟩,h5⟩,h6⟩,h7⟩ := hchk
 refine PR_seg hA h1 h2 h3 h4 h5 h6 h7 stab.mem (fun i hi o ho a w hs hd hc hsame hv => each.mem i hi o ho a w ⟨hs,hd,hc,hsame,fun j hj t ht => ?_⟩) (fun a w hs hd hc hsame hv => fin a w hc (fun L' hsub hk => same_ag hA hs hd hsame L' hsub hk) (fun j hj t ht => hv j (by simpa using hj) t ht))
 simp only [Bool.and_eq_true,List.contains_iff_mem] at hj
 exact hv j hj.1 hj.2 t ht
theorem one {D : List (List Nat)} {T : List Nat} {i : Nat} {o : Oper} (ho : ops[i]? = some o) (hchk : (backOk ops && certOk ops D && doneOk D T && waitOk ops D T [i] && apartOk T [i]) = true)
  (h : opK P ops Q o (PR P ops Q (T ++ [i])) a w) : PR P ops Q T a w := by
 simp only [Bool.and_eq_true] at hchk
 obtain ⟨⟨⟨⟨h1,h2⟩,h3⟩,h4⟩,h5⟩ := hchk
 exact PR_one h1 h2 h3 h4 h5 ho h
end ops
def resM (a : Act) : ResultVar → Sem Value
 |.tmp t => pure (a.tmps.getD t undef)
 |.cell s t => do loadVar t (← asAddr (a.tmps.getD s undef))
def ResOf (P : Program) (a : Act) (w : World) (r : ResultVar) (v : Value) : Prop := (resM a r).run P w = .ok v w
def ResAll (P : Program) (a : Act) (w : World) : List ResultVar → List Value → Prop
 |[],[] => True
 |r :: rs,v :: vs => ResOf P a w r v ∧ ResAll P a w rs vs
 |_,_ => False
def resTuple : List Value → Value
 |[v] => v
 |vs => .tuple vs.toArray
theorem res_list {P : Program} {a : Act} {w : World} : ∀ (rs : List ResultVar) (vs acc : List Value),ResAll P a w rs vs →
  (rs.foldlM (fun (bs : Array Value) r => do let b ← resM a r; pure (bs.push b)) acc.toArray).run P w = .ok (acc ++ vs).toArray w
 |[],[],acc,_ => by simp
 |r :: rs,v :: vs,acc,⟨h1,h2⟩ => by
  have ih := res_list rs vs (acc ++ [v]) h2
  simp only [ResOf] at h1
  simp only [List.foldlM_cons,Sem.run_bind,h1,Result.andThen_ok,Sem.run_pure]
  rw [show acc.toArray.push v = (acc ++ [v]).toArray by simp]
  rw [ih]; simp
 |[],_ :: _,_,h => h.elim
 |_ :: _,[],_,h => h.elim
theorem results_eq (fn : Func) (a : Act) : results fn a.tmps = (do let vs ← fn.results.mapM (resM a); pure (if h : vs.size = 1 then vs[0] else .tuple vs)) := by
 unfold results
 congr 2
theorem res_all {P : Program} {fn : Func} {n : Nat} {a : Act} {L : List (Nat × Value)} {w : World} {rs : List ResultVar} {vs : List Value} {R : Value → World → Prop} (hr : fn.results = rs.toArray) (h : Ag n a L) (hv : ResAll P a w rs vs) (hR : R (resTuple vs) w) :
  bodyPost P fn (Ret R) .ret a w := by
 have hl := res_list rs vs [] hv
 refine ⟨h.defs,_,?_,hR⟩
 rw [results_eq,hr,Sem.run_bind]
 have e : (rs.toArray.mapM (resM a)).run P w = .ok vs.toArray w := by
  rw [Array.mapM_eq_foldlM]
  simpa using hl
 rw [e]
 simp only [Result.andThen_ok,Sem.run_pure]
 match vs with
 |[] => rfl
 |[v] => rfl
 |_ :: _ :: _ => simp [resTuple]
theorem res_of_tmp {P : Program} {n : Nat} {a : Act} {L : List (Nat × Value)} {w : World} {t : Nat} {v : Value} (h : Ag n a L) (hv : lookupL t L = some v) : ResOf P a w (.tmp t) v := by simp only [ResOf,resM,Sem.run_pure,h.val t v hv]
theorem res_of_cell {P : Program} {n : Nat} {a : Act} {L : List (Nat × Value)} {w : World} {s t B : Nat} {T : TypeId} {cs : List Value} {d : TypeDesc} {z : Value} {bytes : Nat} (h : Ag n a L) (hv : lookupL s L = some (.pointer (some ⟨B,0,none⟩))) (hb : Box w B T cs)
  (hu : P.underlying t = some d) (hd : notAgg d = false) (ht : TI P t z cs.length bytes) : ResOf P a w (.cell s t) (.agg cs.toArray) := by
 have e := h.val s _ hv
 simp only [ResOf,resM,e,asAddr,Sem.run_bind,Sem.run_pure,Result.andThen_ok,loadVar,run_isAgg_yes hu hd w,if_true,ht.sizeOf w,run_loadCells_list w ⟨B,0,none⟩ cs hb.cells]
end
section
open Go.RowKit
theorem enter {P : Program} {f : FuncId} {fn : Func} {c : Code} {w : World} {R : Ending → World → Prop} {n : Nat} (vs : List Value) (hf : P.funcs[f]? = some fn) (hb : fn.body = some c) (hn : fn.ntmps = n) (hle : Nat.ble vs.length n = true)
  (k : ∀ a,Ag n a (enterL 0 vs) → c.wp P (bodyPost P fn R) a w) : Calls P f vs.toArray w R := by
 subst hn
 exact calls_of_wp hf hb (k _ (Ag.enter vs _ hle))
inductive ML (ρ : Operand → Value) : List Operand → List Value → Prop
 |nil : ML ρ [] []
 |cons {x : Operand} {v : Value} {xs : List Operand} {vs : List Value} (h : ρ x = v) (t : ML ρ xs vs) : ML ρ (x :: xs) (v :: vs)
theorem ml_nil {ρ : Operand → Value} : ML ρ [] [] := .nil
theorem ml_cons {ρ : Operand → Value} {x : Operand} {v : Value} {xs : List Operand} {vs : List Value} (h : ρ x = v) (t : ML ρ xs vs) : ML ρ (x :: xs) (v :: vs) := .cons h t
theorem map_arr {ρ : Operand → Value} {xs : List Operand} {vs : List Value} (h : ML ρ xs vs) : xs.toArray.map ρ = vs.toArray := by
 have : xs.map ρ = vs := by induction h with
  |nil => rfl
  |cons h _ ih => simp [h,ih]
 simp [this]
inductive ML2 (ρ : Operand → Value) : List (Nat × Operand) → List (Nat × Value) → Prop
 |nil : ML2 ρ [] []
 |cons {i : Nat} {x : Operand} {v : Value} {xs : List (Nat × Operand)} {vs : List (Nat × Value)} (h : ρ x = v) (t : ML2 ρ xs vs) : ML2 ρ ((i,x) :: xs) ((i,v) :: vs)
theorem ml2_nil {ρ : Operand → Value} : ML2 ρ [] [] := .nil
theorem ml2_cons {ρ : Operand → Value} {i : Nat} {x : Operand} {v : Value} {xs : List (Nat × Operand)} {vs : List (Nat × Value)} (h : ρ x = v) (t : ML2 ρ xs vs) : ML2 ρ ((i,x) :: xs) ((i,v) :: vs) := .cons h t
theorem map_arr2 {ρ : Operand → Value} {xs : List (Nat × Operand)} {vs : List (Nat × Value)} (h : ML2 ρ xs vs) : (xs.toArray.map fun (i,x) => (i,ρ x)) = vs.toArray := by
 have : (xs.map fun (i,x) => (i,ρ x)) = vs := by induction h with
  |nil => rfl
  |cons h _ ih => simp [h,ih]
 simp [this]
theorem draw' {P : Program} {id : Nat} {l : List Oper} {Q : Exit → Act → World → Prop} {a : Act} {w : World} (hm : P.follows .mixedOrders = true) (k : ∀ w',Ext w w' → PR P l.toArray Q [] a w') : (Code.region id l.toArray true).wp P Q a w :=
 draw_region hm (k _ ((Chg.refl [] w).drawn _))
section ops
variable {P : Program} {ops : Array Oper} {Q : Exit → Act → World → Prop} {K : Act → World → Prop} {n : Nat} {a : Act} {w : World} {L : List (Nat × Value)}
theorem opk_callX {d : Nat} {op : Op} {ty : TypeId} {pos : String} {after : Array Edge} {f : FuncId} {args : Array Value} {R : Value → World → Prop} (hA : Ag n a L) (hd : Nat.blt d n = true)
  (hrun : (execOp a.eval ⟨some d,op,ty,pos,after,none⟩).run P w = .ok (.enter f args) w) (hc : Calls P f args w (Ret R))
  (k : ∀ a' v w',Ag n a' ((d,v) :: L) → a' = a.put (some d) v → R v w' → K a' w') : opK P ops Q ⟨some d,op,ty,pos,after,none⟩ K a w := by
 unfold opK
 simp only [Region.wanted,if_true]
 exact upon_call hrun hc fun v w' h => k _ v w' (hA.put hd v) rfl h
instance : Inhabited Sl := ⟨Sl.nil⟩
end ops
theorem b_and_mk {x y : Bool} (h : x = true ∧ y = true) : (x && y) = true := by simpa using h
theorem g_mkt {g e : Bool} (hg : g = true) (h : e = true) : (g && (e == true)) = true := by simp [hg,h]
theorem g_mkf {g e : Bool} (hg : g = true) (h : e = false) : (g && (e == false)) = true := by simp [hg,h]
theorem b_not_t {x : Bool} (h : (!x) = true) : x = false := by simpa using h
theorem b_not_f {x : Bool} (h : (!x) = false) : x = true := by simpa using h
theorem b_or_t {x y : Bool} (h : (x || y) = true) : x = true ∨ y = true := by simpa using h
theorem b_or_f {x y : Bool} (h : (x || y) = false) : x = false ∧ y = false := by simpa using h
theorem b_and_t {x y : Bool} (h : (x && y) = true) : x = true ∧ y = true := by simpa using h
theorem b_and_f {x y : Bool} (h : (x && y) = false) : x = false ∨ y = false := by cases x <;> simp_all
theorem g_t {g e : Bool} (h : (g && (e == true)) = true) : e = true := by cases g <;> cases e <;> simp_all
theorem g_f {g e : Bool} (h : (g && (e == false)) = true) : e = false := by cases g <;> cases e <;> simp_all
theorem ones_all (vs : List Value) (h : (vs.all (·.oneCell')) = true) : ∀ v ∈ vs,v.oneCell' = true := by simpa using h
section runs
variable {P : Program} {ρ : Operand → Value} {w : World} {dst : Option Nat} {ty : TypeId} {pos : String} {after : Array Edge} {guard : Option (Nat × Bool)}
theorem run_equal_bool {t : TypeId} (p q : Bool) (ht : P.underlying t = some .bool) (d : Nat) : (Op.equalIn (d + 1) t (.bool p) (.bool q)).run P w = .ok (p == q) w := by
 simp [Op.equalIn,run_underlying ht]
theorem r_beql {t yt : TypeId} {x y : Operand} {p q : Bool} (hx : ρ x = .bool p) (hy : ρ y = .bool q) (ht : P.underlying t = some .bool) :
  (execOp ρ ⟨dst,.binOp .eql t x y yt,ty,pos,after,guard⟩).run P w = .ok (.value (.bool (p == q))) w := by
 have h := run_equal_bool (P := P) (w := w) p q ht 9999
 simp only [execOp,hx,hy,eqGuard_at_bool,binOp,Op.equal,Op.maxDepth,Sem.run_bind,Sem.run_pure,Result.andThen_ok]
 rw [h]; rfl
theorem r_bneq {t yt : TypeId} {x y : Operand} {p q : Bool} (hx : ρ x = .bool p) (hy : ρ y = .bool q) (ht : P.underlying t = some .bool) :
  (execOp ρ ⟨dst,.binOp .neq t x y yt,ty,pos,after,guard⟩).run P w = .ok (.value (.bool (!(p == q)))) w := by
 have h := run_equal_bool (P := P) (w := w) p q ht 9999
 simp only [execOp,hx,hy,eqGuard_at_bool,binOp,Op.equal,Op.maxDepth,Sem.run_bind,Sem.run_pure,Result.andThen_ok]
 rw [h]; rfl
end runs
end
section
open Go.RowKit
theorem Addr.add_add (p : Addr) (m n : Nat) : (p.add m).add n = p.add (m + n) := by
 unfold Addr.add
 by_cases h1 : m = 0
 ·subst h1; simp
 ·by_cases h2 : n = 0
  ·subst h2; simp [h1]
  ·have h3 : ¬ m + n = 0 := by omega
   simp [h1,h2,h3,Nat.add_assoc]
structure Row (A : List Nat) (w : World) (s : Sl) (size : Nat) (vs : List (List Value)) : Prop where
 len : s.n = vs.length
 cap : s.n ≤ s.c
 most : s.c ≤ maxLen
 at_ : ∀ i,i < vs.length → ∃ p,s.a = some p ∧ p.block ∉ A ∧ Cells w (p.add (i * size)) (vs.getD i []) ∧ (vs.getD i []).length = size
theorem Row.nil (A : List Nat) (w : World) (size : Nat) : Row A w Sl.nil size [] := ⟨rfl,Nat.le_refl _,by decide,fun i h => absurd h (by simp)⟩
theorem Row.chg {A F : List Nat} {w w' : World} {s : Sl} {size : Nat} {vs : List (List Value)} (h : Row A w s size vs) (c : Chg F w w') (hF : ∀ b ∈ F,b ∈ A) : Row A w' s size vs :=
 ⟨h.len,h.cap,h.most,fun i hi => by
  obtain ⟨p,h1,h2,h3,h4⟩ := h.at_ i hi
  exact ⟨p,h1,h2,h3.chg c (by rw [Addr.add_block]; exact fun hm => h2 (hF _ hm)),h4⟩⟩
theorem Row.ext {A : List Nat} {w w' : World} {s : Sl} {size : Nat} {vs : List (List Value)} (h : Row A w s size vs) (c : Ext w w') : Row A w' s size vs := h.chg c (by simp)
theorem Row.less {A A' : List Nat} {w : World} {s : Sl} {size : Nat} {vs : List (List Value)} (h : Row A w s size vs) (hA : ∀ b ∈ A',b ∈ A) : Row A' w s size vs :=
 ⟨h.len,h.cap,h.most,fun i hi => by
  obtain ⟨p,h1,h2,h3,h4⟩ := h.at_ i hi
  exact ⟨p,h1,fun hm => h2 (hA _ hm),h3,h4⟩⟩
theorem Row.fresh {A : List Nat} {w : World} {s : Sl} {size : Nat} {vs : List (List Value)} (h : Row A w s size vs) (hs : 0 < size) {B : Nat} (hB : w.heap.size ≤ B) : Row (B :: A) w s size vs :=
 ⟨h.len,h.cap,h.most,fun i hi => by
  obtain ⟨p,h1,h2,h3,h4⟩ := h.at_ i hi
  refine ⟨p,h1,fun hm => ?_,h3,h4⟩
  rcases List.mem_cons.1 hm with e | hm
  ·have hc : ∃ v,(vs.getD i [])[0]? = some v := ⟨_,List.getElem?_eq_getElem (by omega)⟩
   obtain ⟨v,hv⟩ := hc
   have := World.block_lt_of_cell? w _ (h3 0 v hv)
   rw [Addr.add_block,Addr.add_block] at this
   omega
  ·exact h2 hm⟩
theorem Row.cut {A : List Nat} {w : World} {s : Sl} {size : Nat} {vs : List (List Value)} (h : Row A w s size vs) (lo hi mx : Nat) (h1 : lo ≤ hi) (h2 : hi ≤ s.n) (h3 : hi ≤ mx) (h4 : mx ≤ s.c) : Row A w (s.cut size lo hi mx) size ((vs.drop lo).take (hi - lo)) := by
 have hl := h.len
 refine ⟨?_,?_,?_,fun i hi' => ?_⟩
 ·simp [Sl.cut]; omega
 ·simp [Sl.cut]; omega
 ·have := h.most; simp [Sl.cut]; omega
 ·simp at hi'
  obtain ⟨p,e1,e2,e3,e4⟩ := h.at_ (lo + i) (by omega)
  have eg : ((vs.drop lo).take (hi - lo)).getD i [] = vs.getD (lo + i) [] := by
   simp only [List.getD_eq_getElem?_getD,List.getElem?_take,List.getElem?_drop]
   rw [if_pos (by omega)]
  refine ⟨p.add (lo * size),?_,by rw [Addr.add_block]; exact e2,?_,by rw [eg]; exact e4⟩
  ·simp [Sl.cut,e1]; omega
  ·rw [eg,Addr.add_add,← Nat.add_mul]; exact e3
theorem Row.cells1 {A : List Nat} {w : World} {s : Sl} {size : Nat} {vs : List (List Value)} (h : Row A w s size vs) {i : Nat} (hi : i < vs.length) {p : Addr} (hp : s.a = some p) : Cells w (p.add (i * size)) (vs.getD i []) := by
 obtain ⟨q,h1,h2,h3,h4⟩ := h.at_ i hi
 rw [hp] at h1; cases h1; exact h3
theorem Row.flat {A : List Nat} {w : World} {s : Sl} {size : Nat} {vs : List (List Value)} (h : Row A w s size vs) {p : Addr} (hp : s.a = some p) : vs.flatten.length = s.n * size ∧ Cells w p vs.flatten := by
 have hl : ∀ (us : List (List Value)),(∀ u ∈ us,u.length = size) → us.flatten.length = us.length * size := by
  intro us
  induction us with
  |nil => simp
  |cons u us ih =>
   intro hu
   simp only [List.flatten_cons,List.length_append,List.length_cons,hu u (by simp),ih (fun x hx => hu x (by simp [hx])),Nat.add_mul]
   omega
 have hall : ∀ u ∈ vs,u.length = size := by
  intro u hu
  obtain ⟨i,hi,e⟩ := List.getElem_of_mem hu
  obtain ⟨_,_,_,_,h4⟩ := h.at_ i hi
  rw [List.getD_eq_getElem?_getD,List.getElem?_eq_getElem hi] at h4
  simp at h4; rw [← e]; exact h4
 refine ⟨by rw [hl vs hall,h.len],?_⟩
 have key : ∀ (us : List (List Value)) (k : Nat),(∀ i,i < us.length → Cells w (p.add ((k + i) * size)) (us.getD i [])) → (∀ u ∈ us,u.length = size) → Cells w (p.add (k * size)) us.flatten := by
  intro us
  induction us with
  |nil => intro k _ _ j v hv; simp at hv
  |cons u us ih =>
   intro k hc hu j v hv
   simp only [List.flatten_cons] at hv
   by_cases hj : j < u.length
   ·rw [List.getElem?_append_left hj] at hv
    have := hc 0 (by simp)
    simp only [Nat.add_zero,List.getD_cons_zero] at this
    exact this j v hv
   ·rw [List.getElem?_append_right (by omega)] at hv
    have hus := hu u (by simp)
    have := ih (k + 1) (fun i hi => by have := hc (i + 1) (by simp; omega); rw [show k + 1 + i = k + (i + 1) by omega]; simpa using this) (fun x hx => hu x (by simp [hx])) (j - u.length) v hv
    rw [Addr.add_add] at this ⊢
    rw [show k * size + j = (k + 1) * size + (j - u.length) by rw [Nat.add_mul]; omega]
    exact this
 have := key vs 0 (fun i hi => by rw [Nat.zero_add]; exact h.cells1 hi hp) hall
 rwa [Nat.zero_mul,Addr.add_zero'] at this
structure Own (A : List Nat) (w : World) (s : Sl) (size : Nat) (T : TypeId) (vs : List (List Value)) : Prop where
 len : s.n = vs.length
 cap : s.n ≤ s.c
 most : s.c ≤ maxLen
 each : ∀ u ∈ vs,u.length = size
 at_ : (s = Sl.nil) ∨ ∃ g cur,s.a = some ⟨g,0,none⟩ ∧ g ∉ A ∧ Box w g T cur ∧ cur.length = s.c * size ∧ cur.take (s.n * size) = vs.flatten
theorem Own.nil (A : List Nat) (w : World) (size : Nat) (T : TypeId) : Own A w Sl.nil size T [] := ⟨rfl,Nat.le_refl _,by decide,by simp,.inl rfl⟩
theorem flatten_len {size : Nat} : ∀ (us : List (List Value)),(∀ u ∈ us,u.length = size) → us.flatten.length = us.length * size := by
 intro us
 induction us with
 |nil => simp
 |cons u us ih =>
  intro hu
  simp only [List.flatten_cons,List.length_append,List.length_cons,hu u (by simp),ih (fun x hx => hu x (by simp [hx])),Nat.add_mul]
  omega
theorem flatten_group {size : Nat} : ∀ (us : List (List Value)),(∀ u ∈ us,u.length = size) → ∀ i,i < us.length → (us.flatten.drop (i * size)).take size = us.getD i [] := by
 intro us
 induction us with
 |nil => intro _ i hi; simp at hi
 |cons u us ih =>
  intro hu i hi
  have hus := hu u (by simp)
  cases i with
  |zero => simp [← hus]
  |succ i =>
   simp only [List.flatten_cons,List.getD_cons_succ]
   rw [Nat.add_mul,Nat.one_mul,Nat.add_comm,← List.drop_drop,← hus,List.drop_left]
   rw [hus]
   exact ih (fun x hx => hu x (by simp [hx])) i (by simpa using hi)
theorem Own.row {A : List Nat} {w : World} {s : Sl} {size : Nat} {T : TypeId} {vs : List (List Value)} (h : Own A w s size T vs) : Row A w s size vs := by
 refine ⟨h.len,h.cap,h.most,fun i hi => ?_⟩
 rcases h.at_ with e | ⟨g,cur,h1,h2,h3,h4,h5⟩
 ·have := h.len; rw [e] at this; simp [Sl.nil] at this; omega
 ·have hg := flatten_group vs h.each i hi
  have hle : (vs.getD i []).length = size := by
   rw [List.getD_eq_getElem?_getD,List.getElem?_eq_getElem hi]; exact h.each _ (List.getElem_mem hi)
  refine ⟨⟨g,0,none⟩,h1,h2,?_,hle⟩
  rw [Addr.add_lit,Nat.zero_add]
  refine h3.part (i * size) _ ?_
  rw [hle,← hg,← h5]
  have : i * size + size ≤ s.n * size := by
   have := h.len
   rw [← Nat.succ_mul]; exact Nat.mul_le_mul_right _ (by omega)
  rw [List.drop_take,List.take_take]
  congr 1
  omega
def Sl.blk (s : Sl) : List Nat := match s.a with
 |some p => [p.block]
 |none => []
def Sl.own (s : Sl) : List Nat := if s.n = s.c then [] else s.blk
theorem Sl.own_blk {s : Sl} {b : Nat} (h : b ∈ s.own) : b ∈ s.blk := by
 unfold Sl.own at h; split at h
 ·cases h
 ·exact h
theorem Own.blk {A : List Nat} {w : World} {s : Sl} {size : Nat} {T : TypeId} {vs : List (List Value)} (h : Own A w s size T vs) : ∀ b ∈ s.blk,b ∉ A ∧ b < w.heap.size := by
 intro b hb
 rcases h.at_ with e | ⟨g,cur,h1,h2,h3,h4,h5⟩
 ·rw [e] at hb; simp [Sl.blk] at hb
 ·simp [Sl.blk,h1] at hb; subst hb; exact ⟨h2,h3.lt⟩
theorem Own.chg {A F : List Nat} {w w' : World} {s : Sl} {size : Nat} {T : TypeId} {vs : List (List Value)} (h : Own A w s size T vs) (c : Chg F w w') (hF : ∀ b ∈ F,b ∈ A) : Own A w' s size T vs := by
 refine ⟨h.len,h.cap,h.most,h.each,?_⟩
 rcases h.at_ with e | ⟨g,cur,h1,h2,h3,h4,h5⟩
 ·exact .inl e
 ·exact .inr ⟨g,cur,h1,h2,h3.keep c (fun hm => h2 (hF _ hm)),h4,h5⟩
theorem Own.ext {A : List Nat} {w w' : World} {s : Sl} {size : Nat} {T : TypeId} {vs : List (List Value)} (h : Own A w s size T vs) (c : Ext w w') : Own A w' s size T vs := h.chg c (by simp)
theorem Own.fresh {A : List Nat} {w : World} {s : Sl} {size : Nat} {T : TypeId} {vs : List (List Value)} (h : Own A w s size T vs) {B : Nat} (hB : w.heap.size ≤ B) : Own (B :: A) w s size T vs := by
 refine ⟨h.len,h.cap,h.most,h.each,?_⟩
 rcases h.at_ with e | ⟨g,cur,h1,h2,h3,h4,h5⟩
 ·exact .inl e
 ·refine .inr ⟨g,cur,h1,fun hm => ?_,h3,h4,h5⟩
  rcases List.mem_cons.1 hm with e | hm
  ·have := h3.lt; omega
  ·exact h2 hm
def App (A : List Nat) (w : World) (s : Sl) (size : Nat) (T : TypeId) (vs : List (List Value)) : Prop := Own A w s size T vs ∨ (s.n = s.c ∧ Row A w s size vs)
theorem App.row {A : List Nat} {w : World} {s : Sl} {size : Nat} {T : TypeId} {vs : List (List Value)} (h : App A w s size T vs) : Row A w s size vs := h.elim (·.row) (·.2)
theorem setRow_chg (w : World) (g : Nat) (cs : Array Value) : Chg [g] w (w.setRow g cs) :=
 ⟨rfl,rfl,rfl,by simp,fun k _ hk => setRow_other w g k _ (by simpa using hk)⟩
theorem append_app {P : Program} {A : List Nat} {w : World} {s x : Sl} {size bytes : Nat} {t ty T : TypeId} {z : Value} {vs us : List (List Value)} (ht : P.underlying t = some (.slice T)) (hi : TI P T z size bytes) (hzs : z.cells.size = size) (hsz : 0 < size)
  (h : App A w s size T vs) (hA : ∀ b ∈ A,b < w.heap.size) (hx : Row [] w x size us) (h1 : ∀ u ∈ us.flatten,u.oneCell' = true) (hu : us ≠ [])
  (h63 : s.n + us.length ≤ maxLen) (hbytes : (s.n + us.length) * bytes ≤ 140737488355328) :
  ∃ s' w',(Builtin.append_ #[t,t] ty #[s.v,x.v]).run P w = .ok (Sl.v s') w' ∧ Own A w' s' size T (vs ++ us) ∧ Chg (s.own.filter fun b => !A.contains b) w w' ∧ (∀ b ∈ s'.blk,b ∈ s.own ∨ w.heap.size ≤ b) := by
 obtain ⟨i,hi0,hz,hs,hb⟩ := hi
 subst hs hb
 have hr := h.row
 have hul : 0 < us.length := by cases us <;> simp_all
 have hsmall : s.n + us.length ≤ 9223372036854775807 := by simp only [maxLen] at h63; omega
 obtain ⟨px,hpx⟩ : ∃ p,x.a = some p := by obtain ⟨p,hp,_⟩ := hx.at_ 0 hul; exact ⟨p,hp⟩
 have hxf := hx.flat hpx
 have hvx : x.v = .slice (some px) us.length x.c := by unfold Sl.v; rw [hpx,hx.len]
 have hxl : us.flatten.length = us.length * i.size := by rw [hxf.1,hx.len]
 have hvl : s.n = vs.length := hr.len
 have each : ∀ u ∈ vs ++ us,u.length = i.size := by
  intro u hu'
  rcases List.mem_append.1 hu' with hm | hm
  ·obtain ⟨k,hk,e⟩ := List.getElem_of_mem hm
   obtain ⟨_,_,_,_,h4⟩ := hr.at_ k hk
   rw [List.getD_eq_getElem?_getD,List.getElem?_eq_getElem hk] at h4
   simp at h4; rw [← e]; exact h4
  ·obtain ⟨k,hk,e⟩ := List.getElem_of_mem hm
   obtain ⟨_,_,_,_,h4⟩ := hx.at_ k hk
   rw [List.getD_eq_getElem?_getD,List.getElem?_eq_getElem hk] at h4
   simp at h4; rw [← e]; exact h4
 have hvf : vs.flatten.length = s.n * i.size := by rw [flatten_len vs (fun u hu' => each u (by simp [hu'])),hvl]
 have grown : ∀ (old : Nat),old < s.n + us.length →
   Own A (w.drew.alloc (.cells (vs.flatten.toArray ++ us.flatten.toArray ++ Builtin.zeroCells z.cells (grownCap w (s.n + us.length) old T - (s.n + us.length))) T))
    ⟨some ⟨w.heap.size,0,none⟩,s.n + us.length,grownCap w (s.n + us.length) old T⟩ i.size T (vs ++ us) := by
  intro old ho
  have hge := grownCap_ge w (s.n + us.length) old T
  have hcm : grownCap w (s.n + us.length) old T ≤ maxLen := grownCap_le_maxLen w (s.n + us.length) old T h63
  refine ⟨by simp [hvl],hge,hcm,each,.inr ⟨w.heap.size,vs.flatten ++ us.flatten ++ (Builtin.zeroCells z.cells (grownCap w (s.n + us.length) old T - (s.n + us.length))).toList,rfl,fun hm => by have := hA _ hm; omega,?_,?_,?_⟩⟩
  ·unfold Box
   have := heap_alloc_new w.drew (.cells (vs.flatten.toArray ++ us.flatten.toArray ++ Builtin.zeroCells z.cells (grownCap w (s.n + us.length) old T - (s.n + us.length))) T)
   rw [show w.drew.heap.size = w.heap.size from rfl] at this
   rw [this]
   simp
  ·simp only [List.length_append,Array.length_toList,size_zeroCells,hvf,hxl,hzs,← Nat.add_mul]
   congr 1; omega
  ·show (vs.flatten ++ us.flatten ++ _).take ((s.n + us.length) * i.size) = _
   rw [List.flatten_append,Nat.add_mul,← hvf,← hxl,← List.length_append,List.take_left]
 have growC : ∀ o,Chg (s.own.filter fun b => !A.contains b) w (w.drew.alloc o) := fun o => Chg.ext (((Chg.refl [] w).drew).trans (Ext.alloc _ _))
 by_cases hcap : s.n + us.length ≤ s.c
 ·-- there is room: it is a row of the call's own
  have hown' : s.own = s.blk := by unfold Sl.own; rw [if_neg (by omega)]
  have hown : Own A w s i.size T vs := by
   rcases h with h | ⟨h,_⟩
   ·exact h
   ·omega
  rcases hown.at_ with e | ⟨g,cur,e1,e2,e3,e4,e5⟩
  ·have e1 : s.n = 0 := by rw [e]
   have e2 : s.c = 0 := by rw [e]
   omega
  ·have hg : w.heap[g]? = some (.cells cur.toArray T (0,0)) := e3
   have hfit : s.n * i.size + us.flatten.length ≤ cur.toArray.size := by
    rw [hxl,← Nat.add_mul]; simp only [List.size_toArray]; rw [e4]; exact Nat.mul_le_mul_right _ hcap
   have hrun := run_append_room (P := P) w t ty T i ht hi0 g s.n s.c cur.toArray hg px us.length x.c us.flatten hxl hxf.2 h1 hcap hfit
   refine ⟨⟨some ⟨g,0,none⟩,s.n + us.length,s.c⟩,w.setRow g ((cur.toArray.toList.take (s.n * i.size) ++ us.flatten ++ cur.toArray.toList.drop (s.n * i.size + us.flatten.length)).toArray),?_,?_,(setRow_chg w g _).mono (by rw [hown']; simp [Sl.blk,e1,e2]),by rw [hown']; simp [Sl.blk,e1]⟩
   ·rw [hvx]; unfold Sl.v; rw [e1]; exact hrun
   ·refine ⟨by simp [hvl],hcap,hown.most,each,.inr ⟨g,cur.take (s.n * i.size) ++ us.flatten ++ cur.drop (s.n * i.size + us.flatten.length),rfl,e2,?_,?_,?_⟩⟩
    ·unfold Box; exact setRow_heap w g cur.toArray _ T _ hg
    ·simp only [List.length_append,List.length_take,List.length_drop]
     simp only [List.size_toArray] at hfit
     omega
    ·show List.take ((s.n + us.length) * i.size) _ = _
     rw [e5,List.flatten_append,Nat.add_mul,← hxl,← hvf,← List.length_append,List.take_left]
 ·-- a new row
  cases hsa : s.a with
  |none =>
   have hn0 : s.n = 0 := by
    cases hv : vs with
    |nil => rw [hvl,hv]; rfl
    |cons v0 vr => obtain ⟨p,hp,_⟩ := hr.at_ 0 (by rw [hv]; simp); rw [hsa] at hp; cases hp
   have hv0 : vs = [] := List.eq_nil_of_length_eq_zero (by omega)
   have hc0 : s.c = 0 := by
    rcases h with h | ⟨h,_⟩
    ·rcases h.at_ with e | ⟨g,cur,e1,_⟩
     ·rw [e]
     ·rw [hsa] at e1; cases e1
    ·omega
   have hrun := run_append_nil (P := P) w t ty T i z ht hi0 hz px us.length x.c us.flatten hxl hxf.2 hul (by omega) (by have := hbytes; rw [hn0,Nat.zero_add] at this; omega)
   have hg := grown 0 (by omega)
   rw [hn0,hv0] at hg
   simp only [Nat.zero_add,List.flatten_nil,Array.empty_append,List.nil_append] at hg
   refine ⟨_,_,?_,by rw [hv0,List.nil_append]; exact hg,growC _,by simp [Sl.blk]⟩
   rw [hvx]; unfold Sl.v; rw [hsa,hn0,hc0]
   exact hrun
  |some p =>
   have hflat := hr.flat hsa
   have hrun := run_append_grow (P := P) w t ty T i z ht hi0 hz p s.n s.c vs.flatten hvf hflat.2 px us.length x.c us.flatten hxl hxf.2 (by omega) (by omega) (growslice_fits (by omega) hbytes)
   refine ⟨_,_,?_,grown s.c (by omega),growC _,by simp [Sl.blk]⟩
   rw [hvx]; unfold Sl.v; rw [hsa]
   exact hrun
end
section
open Go.RowKit
def bc (x : UInt8) : List Value := [.int .u8 (x.toNat : Int)]
def RdB (A : List Nat) (w : World) (s : Sl) (xs : List UInt8) : Prop := Row A w s 1 (xs.map bc)
def OwnB (A : List Nat) (w : World) (s : Sl) (T : TypeId) (xs : List UInt8) : Prop := Own A w s 1 T (xs.map bc)
def AppB (A : List Nat) (w : World) (s : Sl) (T : TypeId) (xs : List UInt8) : Prop := App A w s 1 T (xs.map bc)
theorem RdB.nil (A : List Nat) (w : World) : RdB A w Sl.nil [] := Row.nil A w 1
theorem RdB.ext {A : List Nat} {w w' : World} {s : Sl} {xs : List UInt8} (h : RdB A w s xs) (c : Ext w w') : RdB A w' s xs := Row.ext h c
theorem RdB.chg {A F : List Nat} {w w' : World} {s : Sl} {xs : List UInt8} (h : RdB A w s xs) (c : Chg F w w') (hF : ∀ b ∈ F,b ∈ A) : RdB A w' s xs := Row.chg h c hF
theorem RdB.len {A : List Nat} {w : World} {s : Sl} {xs : List UInt8} (h : RdB A w s xs) : s.n = xs.length := by have := Row.len h; simpa using this
theorem RdB.less {A A' : List Nat} {w : World} {s : Sl} {xs : List UInt8} (h : RdB A w s xs) (hA : ∀ b ∈ A',b ∈ A) : RdB A' w s xs := Row.less h hA
theorem RdB.most {A : List Nat} {w : World} {s : Sl} {xs : List UInt8} (h : RdB A w s xs) : s.n ≤ s.c ∧ s.c ≤ 9223372036854775807 := by
 have h1 := Row.cap h; have h2 := Row.most h; unfold maxLen at h2; exact ⟨h1,by omega⟩
theorem OwnB.rd {A : List Nat} {w : World} {s : Sl} {T : TypeId} {xs : List UInt8} (h : OwnB A w s T xs) : RdB A w s xs := Own.row h
theorem AppB.rd {A : List Nat} {w : World} {s : Sl} {T : TypeId} {xs : List UInt8} (h : AppB A w s T xs) : RdB A w s xs := App.row h
theorem OwnB.app {A : List Nat} {w : World} {s : Sl} {T : TypeId} {xs : List UInt8} (h : OwnB A w s T xs) : AppB A w s T xs := .inl h
theorem getD_map_bc (xs : List UInt8) (i : Nat) (h : i < xs.length) : (xs.map bc).getD i [] = bc (xs.getD i 0) := by
 simp [List.getD_eq_getElem?_getD,h]
theorem RdB.at {A : List Nat} {w : World} {s : Sl} {xs : List UInt8} (h : RdB A w s xs) {i : Int} (h0 : 0 ≤ i) (h1 : i < s.n) :
  ∃ p,s.a = some p ∧ p.block ∉ A ∧ w.cell? (p.add (i.toNat * 1)) = some (.int .u8 ((xs.getD i.toNat 0).toNat : Int)) := by
 have hl := h.len
 obtain ⟨p,e1,e2,e3,e4⟩ := Row.at_ h i.toNat (by simp; omega)
 refine ⟨p,e1,e2,?_⟩
 have := e3 0 (.int .u8 ((xs.getD i.toNat 0).toNat : Int)) (by rw [getD_map_bc xs _ (by omega)]; rfl)
 rwa [Addr.add_zero'] at this
theorem RdB.cell {A : List Nat} {w : World} {s : Sl} {xs : List UInt8} (h : RdB A w s xs) {i : Int} (h0 : 0 ≤ i) (h1 : i < s.n) {p : Addr} (hp : s.a = some p) :
  w.cell? (p.add (i.toNat * 1)) = some (.int .u8 ((xs.getD i.toNat 0).toNat : Int)) := by
 obtain ⟨q,e1,_,e3⟩ := h.at h0 h1
 rw [hp] at e1; cases e1; exact e3
theorem append_none {P : Program} {w : World} {s x : Sl} {t ty T : TypeId} {z : Value} {size bytes : Nat} (ht : P.underlying t = some (.slice T)) (hi : TI P T z size bytes) (hc : s.n ≤ s.c) (hx : x.n = 0) :
  (Builtin.append_ #[t,t] ty #[s.v,x.v]).run P w = .ok s.v w := by
 obtain ⟨i,hi0,hz,hs,hb⟩ := hi
 have hf : (Builtin.firstCells i.size 0 x.v).run P w = .ok #[] w := by
  unfold Sl.v
  cases x.a <;> simp [Builtin.firstCells,loadCells,loadCellsFrom]
 have e : x.v = .slice x.a 0 x.c := by unfold Sl.v; rw [hx]
 rw [e] at hf ⊢
 unfold Sl.v
 cases hsa : s.a <;> simp [Builtin.append_,run_underlying ht,Go.sizeOf,typeInfo,hi0,Builtin.lenOf,hc,hf,storeCells]
end
section
open Go.RowKit Go.ChangeShapes Go.WideShapes Go.ChangeAt
theorem Ret.out {R : Value → World → Prop} {e : Ending} {w : World} (h : Ret R e w) : ∃ v,e = .returned v ∧ R v w := by
 cases e with
 |returned v => exact ⟨v,rfl,h⟩
 |_ => exact h.elim
theorem ownKnob0 : ownKnob Tryz.prog.godebug = none := by kernel_rfl
theorem laidOut0 : laidOutB Tryz.prog = true := by kernel_rfl
theorem trodAll_ext {H : Type} {enc : TypeId × Value → H} {P : Program} (hl : laidOutB P = true) {W W' : World} (hE : Ext W W') : ∀ {ts : List TypeId} {vs : List Value} {ds : List (DataW H)} {ps : List MemPlace},
  (∀ t ∈ ts,P.readableRec t = true ∧ t < P.types.size) → DataW.TrodAll enc P W 0 (fun _ => true) true ts vs ds ps → DataW.TrodAll enc P W' 0 (fun b => decide (b < W.heap.size)) true ts vs ds ps
 |[],vs,ds,ps,_,h => by obtain ⟨rfl,rfl,rfl⟩ := trodAll_nil h; exact rfl
 |t :: ts,vs,ds,ps,ht,h => by
  obtain ⟨v,vs',d,ds',p,q,rfl,rfl,rfl,h1,h2⟩ := trodAll_cons h
  have lt0 : ∀ x ∈ p,x.block < W.heap.size := by obtain ⟨m,hm⟩ := h1; exact DataW.trod_lt m _ _ _ hm
  exact trodAll_cons_mk (Below.trod hl (ht t (by simp)).1 (ht t (by simp)).2 h1 hE.below lt0) (trodAll_ext hl hE (fun u hu => ht u (by simp [hu])) h2)
theorem post_ext {H : Type} {enc : TypeId × Value → H} {P : Program} {f : Func} {s : ChangeSpec} {W W' : World} {args : Array Value} {ds gs : List (DataW H)} {before : List MemPlace} {tb : TypeId}
  (hW : DataW.Whole enc P f.params.toList s.vars false W args.toList ds gs before) (hs : s.vars = []) (hr : f.resultTypes = #[tb]) (hb : P.underlying tb = some .bool)
  (hds : s.fn H (ds ++ gs) = { results := [.lit (.bool true)],args := ds }) (hl : laidOutB P = true) (ht : ∀ t ∈ f.params.toList,P.readableRec t = true ∧ t < P.types.size) (hE : Ext W W') :
  s.post enc P f false true false false W args (.bool true) W' := by
 have hW' := hW
 obtain ⟨p,q,hA,hV,rfl,hfz,hnd⟩ := hW
 refine ⟨ds,gs,_,[],p,[],hW',?_,?_,?_,hE.below.frame _,fun h => by cases h⟩
 ·rw [hds,hr]; exact trodAll_mk1 (shut_bool hb _)
 ·rw [hds]; exact trodAll_ext hl hE ht hA
 ·rw [hds,hs]; exact rfl
theorem bulk_one {H : Type} (d : DataW H) : 1 ≤ Rows.uptoBulk d := by
 cases d with
 |lit l => cases l <;> simp [Rows.uptoBulk]
 |nil => simp [Rows.uptoBulk]
 |ptr d => simp [Rows.uptoBulk]
 |slice elems spare => simp [Rows.uptoBulk]
 |agg parts => simp [Rows.uptoBulk]
 |iface t d => simp [Rows.uptoBulk]
 |map entries => simp [Rows.uptoBulk]
 |held h => simp [Rows.uptoBulk]
theorem bulk_len {H : Type} (l : List (DataW H)) : l.length ≤ Rows.uptoBulkAll l := by
 induction l with
 |nil => simp [Rows.uptoBulkAll]
 |cons x r ih => have := bulk_one x; simp only [Rows.uptoBulkAll,List.length_cons]; omega
theorem open_nums {H : Type} {enc : TypeId × Value → H} {P : Program} {t e : TypeId} {k : IntKind} {W : World} {v : Value} {d : DataW H} {ps : List MemPlace} {base : Nat} (ht : P.underlying t = some (.slice e)) (he : P.underlying e = some (.int k)) (hc : P.cellsOf e = 1)
  (hval : Value.okWide P W .any base t v) (h : DataW.Trod enc P W 0 (fun _ => true) true t v d ps) :
  ∃ (s : Sl) (zs : List Int),v = s.v ∧ Row [] W s 1 (zs.map fun z => [.int k z]) ∧ (∀ z ∈ zs,(Lit.int k z).wf = true) ∧ zs.length ≤ Rows.uptoBulk d ∧ s.c ≤ Rows.uptoBulk d := by
 obtain ⟨a,len,cap,rfl⟩ := okWide_slice ht hval
 obtain ⟨fuel,hf⟩ := h
 rcases open_ints ht he hc hf with ⟨hcs,_⟩ | ⟨x,l,c,zs,hcs,_,hl,hm,hz,hx,hcell,hwz⟩
 ·simp [Value.cells] at hcs
  obtain ⟨rfl,rfl,rfl⟩ := hcs
  exact ⟨Sl.nil,[],rfl,Row.nil _ _ _,by simp,Nat.zero_le _,Nat.zero_le _⟩
 ·simp [Value.cells] at hcs
  obtain ⟨rfl,rfl,rfl⟩ := hcs
  have hzl : zs.length = cap := by simpa using hz
  have hb : cap ≤ Rows.uptoBulk d := by
   have e := congrArg Prod.fst hx
   simp only at e
   rw [e]
   have h1 := bulk_len (H := H) (lits k (zs.take len))
   have h2 := bulk_len (H := H) (lits k (zs.drop len))
   have e1 : (lits (H := H) k (zs.take len)).length = (zs.take len).length := by simp [lits]
   have e2 : (lits (H := H) k (zs.drop len)).length = (zs.drop len).length := by simp [lits]
   rw [e1] at h1; rw [e2] at h2
   simp only [List.length_take,List.length_drop] at h1 h2
   simp only [Rows.uptoBulk]; omega
  refine ⟨⟨some x,len,cap⟩,zs.take len,rfl,⟨by simp; omega,hl,hm,fun i hi => ?_⟩,fun z hz' => hwz z (List.mem_of_mem_take hz'),by simp; omega,hb⟩
  simp only [List.length_map,List.length_take] at hi
  have hg : ((zs.take len).map fun z => [Value.int k z]).getD i [] = [.int k (zs.getD i 0)] := by
   simp [List.getD_eq_getElem?_getD,List.getElem?_take,show i < len by omega,List.getElem?_eq_getElem (show i < zs.length by omega)]
  rw [hg]
  exact ⟨x,rfl,by simp,fun j u hj => by
   cases j with
   |zero => simp only [List.getElem?_cons_zero,Option.some.injEq] at hj; subst hj; rw [Addr.add_add,Nat.mul_one,Nat.add_zero]; exact hcell i (by omega)
   |succ j => simp at hj,rfl⟩
end
section
open Go.RowKit Go.ChangeShapes Go.WideShapes Go.ChangeAt
inductive T where
 |node (kind : Int) (name text : Str) (attrs : List (Str × Str)) (kids : List T)
namespace T
def kind : T → Int | .node k _ _ _ _ => k
def name : T → Str | .node _ n _ _ _ => n
def text : T → Str | .node _ _ x _ _ => x
def attrs : T → List (Str × Str) | .node _ _ _ ats _ => ats
def kids : T → List T | .node _ _ _ _ ks => ks
theorem ind {P : T → Prop} (h : ∀ k n x ats ks,(∀ t ∈ ks,P t) → P (.node k n x ats ks)) : ∀ t,P t
 |.node k n x ats ks => h k n x ats ks fun t _ => ind h t
theorem ind' {P : T → Prop} (h : ∀ t,(∀ u ∈ t.kids,P u) → P t) : ∀ t,P t := ind fun _ _ _ _ _ ih => h _ ih
def nul : T := .node 0 [] [] [] []
def size : T → Nat | .node _ _ _ _ ks => 1 + (ks.attach.map fun ⟨t,_⟩ => size t).sum
def depth : T → Nat | .node _ _ _ _ ks => 1 + (ks.attach.map fun ⟨t,_⟩ => depth t).foldr max 0
def slots : T → Nat | .node _ _ _ ats ks => ats.length + (ks.attach.map fun ⟨t,_⟩ => slots t).sum
def abulk (p : Str × Str) : Nat := p.1.length + p.2.length + 1
def bulk : T → Nat | .node _ n x ats ks => 1 + n.length + x.length + (ats.map abulk).sum + (ks.attach.map fun ⟨t,_⟩ => bulk t).sum
theorem size_eq (t : T) : t.size = 1 + (t.kids.map size).sum := by cases t; rw [size]; simp [kids]
theorem depth_eq (t : T) : t.depth = 1 + (t.kids.map depth).foldr max 0 := by cases t; rw [depth]; simp [kids]
theorem bulk_eq (t : T) : t.bulk = 1 + t.name.length + t.text.length + (t.attrs.map abulk).sum + (t.kids.map bulk).sum := by cases t; rw [bulk]; simp [kids,attrs,name,text]
theorem sum_le {α : Type} (f g : α → Nat) : ∀ l : List α,(∀ x ∈ l,f x ≤ g x) → (l.map f).sum ≤ (l.map g).sum
 |[],_ => Nat.le_refl _
 |x :: r,h => by
  have h1 := h x (by simp)
  have h2 := sum_le f g r (fun y hy => h y (by simp [hy]))
  simp only [List.map_cons,List.sum_cons]; omega
theorem mem_sum {α : Type} (f : α → Nat) : ∀ {l : List α} {x : α},x ∈ l → f x ≤ (l.map f).sum
 |y :: r,x,h => by
  simp only [List.map_cons,List.sum_cons]
  rcases List.mem_cons.1 h with rfl | h
  ·omega
  ·have := mem_sum f h; omega
theorem size_bulk : ∀ t : T,t.size ≤ t.bulk := ind' fun t ih => by
 rw [size_eq,bulk_eq]
 have := sum_le size bulk t.kids ih
 omega
theorem foldr_max_le {l : List Nat} {n : Nat} (h : ∀ x ∈ l,x ≤ n) : l.foldr max 0 ≤ n := by
 induction l with
 |nil => exact Nat.zero_le _
 |cons a r ih => simp only [List.foldr_cons]; have := h a (by simp); have := ih (fun x hx => h x (by simp [hx])); omega
theorem depth_size : ∀ t : T,t.depth ≤ t.size := ind' fun t ih => by
 rw [depth_eq,size_eq]
 have : (t.kids.map depth).foldr max 0 ≤ (t.kids.map size).sum := foldr_max_le fun x hx => by
  obtain ⟨u,hu,rfl⟩ := List.mem_map.1 hx
  exact Nat.le_trans (ih u hu) (mem_sum size hu)
 omega
theorem kid_bulk {t u : T} (h : u ∈ t.kids) : u.bulk < t.bulk := by
 rw [bulk_eq t]; have := mem_sum bulk h; omega
theorem kids_len (t : T) : t.kids.length < t.bulk := by
 have h1 : t.kids.length ≤ (t.kids.map bulk).sum := by
  have := sum_le (fun _ => 1) bulk t.kids (fun u _ => by rw [bulk_eq]; omega)
  have e : ∀ l : List T,(l.map fun _ => 1).sum = l.length := fun l => by induction l with
   |nil => rfl
   |cons a r ih => simp only [List.map_cons,List.sum_cons,ih,List.length_cons]; omega
  rw [e] at this; exact this
 rw [bulk_eq t]; omega
end T
def ac (p : Str × Str) : List Value := [.string (Bs p.1),.string (Bs p.2)]
def tc (t : T) (p : Sl × Sl) : List Value := [.int .i64 t.kind,.string (Bs t.name),.string (Bs t.text),p.1.v,p.2.v]
def tv (t : T) (sa sk : Sl) : Value := .agg #[.int .i64 t.kind,.string (Bs t.name),.string (Bs t.text),sa.v,sk.v]
inductive RdT (A : List Nat) (w : World) : T → Sl → Sl → Prop
 |mk {k : Int} {n x : Str} {ats : List (Str × Str)} {ks : List T} {sa sk : Sl} (ps : List (Sl × Sl)) (ha : Row A w sa 2 (ats.map ac)) (hl : ps.length = ks.length) (hk : Row A w sk 5 (List.zipWith tc ks ps))
  (h : ∀ (i : Nat) (t : T) (p : Sl × Sl),ks[i]? = some t → ps[i]? = some p → RdT A w t p.1 p.2) : RdT A w (.node k n x ats ks) sa sk
theorem RdT.attrs {A : List Nat} {w : World} {t : T} {sa sk : Sl} (h : RdT A w t sa sk) : Row A w sa 2 (t.attrs.map ac) := by
 cases h with | mk ps ha hl hk h => exact ha
theorem RdT.nattrs {A : List Nat} {w : World} {t : T} {sa sk : Sl} (h : RdT A w t sa sk) : sa.n = t.attrs.length := by
 have := h.attrs.len; simpa using this
theorem RdT.kid {A : List Nat} {w : World} {t : T} {sa sk : Sl} (h : RdT A w t sa sk) {i : Nat} (hi : i < t.kids.length) :
  ∃ p sa' sk',sk.a = some p ∧ p.block ∉ A ∧ Cells w (p.add (i * 5)) (tc (t.kids.getD i T.nul) (sa',sk')) ∧ RdT A w (t.kids.getD i T.nul) sa' sk' := by
 cases h with
 |@mk k n x ats ks _ _ ps ha hl hk h =>
  simp only [T.kids] at hi ⊢
  have hp : i < ps.length := by omega
  obtain ⟨p,h1,h2,h3,_⟩ := hk.at_ i (by simp; omega)
  have e : (List.zipWith tc ks ps).getD i [] = tc (ks.getD i T.nul) ((ps[i]).1,(ps[i]).2) := by
   simp [List.getD_eq_getElem?_getD,hi,hp,List.getElem?_zipWith]
  rw [e] at h3
  refine ⟨p,(ps[i]).1,(ps[i]).2,h1,h2,h3,h i _ _ ?_ (List.getElem?_eq_getElem hp)⟩
  rw [List.getElem?_eq_getElem hi,List.getD_eq_getElem?_getD,List.getElem?_eq_getElem hi]; rfl
theorem RdT.chg {A F : List Nat} {w w' : World} (c : Chg F w w') (hF : ∀ b ∈ F,b ∈ A) : ∀ {t : T} {sa sk : Sl},RdT A w t sa sk → RdT A w' t sa sk := by
 intro t sa sk h
 induction h with
 |mk ps ha hl hk h ih => exact .mk ps (ha.chg c hF) hl (hk.chg c hF) ih
theorem RdT.ext {A : List Nat} {w w' : World} {t : T} {sa sk : Sl} (h : RdT A w t sa sk) (c : Ext w w') : RdT A w' t sa sk := RdT.chg c (by simp) h
theorem RdT.less {A A' : List Nat} {w : World} {t : T} {sa sk : Sl} (h : RdT A w t sa sk) (hA : ∀ b ∈ A',b ∈ A) : RdT A' w t sa sk := by
 induction h with
 |mk ps ha hl hk h ih => exact .mk ps (ha.less hA) hl (hk.less hA) ih
theorem RdT.fresh {A : List Nat} {w : World} {t : T} {sa sk : Sl} (h : RdT A w t sa sk) {B : Nat} (hB : w.heap.size ≤ B) : RdT (B :: A) w t sa sk := by
 induction h with
 |mk ps ha hl hk h ih => exact .mk ps (ha.fresh (by decide) hB) hl (hk.fresh (by decide) hB) ih
theorem RdT.nil (A : List Nat) (w : World) (k : Int) (n x : Str) : RdT A w (.node k n x [] []) Sl.nil Sl.nil :=
 .mk [] (Row.nil _ _ _) rfl (Row.nil _ _ _) (by simp)
theorem getD_mem {α : Type} {l : List α} {d : α} {i : Nat} (h : i < l.length) : l.getD i d ∈ l := by
 rw [List.getD_eq_getElem?_getD,List.getElem?_eq_getElem h]; exact List.getElem_mem h
end
section
open Go.RowKit
section runs
variable {P : Program} {ρ : Operand → Value} {w : World} {dst : Option Nat} {ty : TypeId} {pos : String} {after : Array Edge} {guard : Option (Nat × Bool)}
def EqA (P : Program) (t : TypeId) (xs ys : Array Value) (b : Bool) : Prop := P.eqGuardType P.depth t = false ∧ ∀ w,(Op.equalIn 10000 t (.agg xs) (.agg ys)).run P w = .ok b w
def FE (P : Program) (xs ys : Array Value) (fs : List Field) (b : Bool) : Prop := ∀ w,(Op.eqFields 9999 xs ys fs).run P w = .ok b w
theorem fe_nil (xs ys : Array Value) : FE P xs ys [] true := fun w => by simp [Op.eqFields]
theorem fe_of {xs ys : Array Value} {f : Field} {fs : List Field} {b r : Bool} {u v : Value} (hn : f.name ≠ "_") (hx : ∀ w,(part f.type xs f.offset).run P w = .ok u w) (hy : ∀ w,(part f.type ys f.offset).run P w = .ok v w)
  (he : ∀ w,(Op.equalIn 9999 f.type u v).run P w = .ok r w) (h : FE P xs ys fs b) : FE P xs ys (f :: fs) (r && b) := fun w => by
 simp only [Op.eqFields,if_pos hn,Sem.run_bind,hx,hy,he,Result.andThen_ok]
 cases r
 ·simp
 ·simp [h w]
theorem run_part1 {xs : Array Value} {t : TypeId} {o : Nat} {v : Value} {d : TypeDesc} (hd : P.underlying t = some d) (hn : notAgg d = true) (hv : xs[o]? = some v) (w : World) : (part t xs o).run P w = .ok v w := by
 simp [part,run_isAgg_no hd hn,hv]
theorem fe_str {xs ys : Array Value} {f : Field} {fs : List Field} {b : Bool} {p q : Str} (hn : f.name ≠ "_") (hd : P.underlying f.type = some .string) (hx : xs[f.offset]? = some (.string (Bs p))) (hy : ys[f.offset]? = some (.string (Bs q))) (h : FE P xs ys fs b) :
  FE P xs ys (f :: fs) (decide (p = q) && b) := by
 refine fe_of hn (run_part1 hd rfl hx) (run_part1 hd rfl hy) (fun w => ?_) h
 rw [run_equalIn_string w 9998 f.type _ _ hd]
 have e : ((Bs p).toList == (Bs q).toList) = decide (p = q) := by
  rw [ByteArray.toList_eq,ByteArray.toList_eq,Bs_data,Bs_data,Bool.eq_iff_iff]; simp
 rw [e]
theorem fe_int {xs ys : Array Value} {f : Field} {fs : List Field} {b : Bool} {k : IntKind} {p q : Int} (hn : f.name ≠ "_") (hd : P.underlying f.type = some (.int k)) (hx : xs[f.offset]? = some (.int k p)) (hy : ys[f.offset]? = some (.int k q)) (h : FE P xs ys fs b) :
  FE P xs ys (f :: fs) (decide (p = q) && b) := by
 refine fe_of hn (run_part1 hd rfl hx) (run_part1 hd rfl hy) (fun w => ?_) h
 rw [run_equalIn_int w 9998 f.type k k p q hd]
 congr 1
theorem fe_bool {xs ys : Array Value} {f : Field} {fs : List Field} {b p q : Bool} (hn : f.name ≠ "_") (hd : P.underlying f.type = some .bool) (hx : xs[f.offset]? = some (.bool p)) (hy : ys[f.offset]? = some (.bool q)) (h : FE P xs ys fs b) :
  FE P xs ys (f :: fs) (decide (p = q) && b) := by
 refine fe_of hn (run_part1 hd rfl hx) (run_part1 hd rfl hy) (fun w => ?_) h
 rw [run_equalIn_bool' w 9998 f.type p q hd]
 congr 1
theorem EqA.of {t : TypeId} {xs ys : Array Value} {fs : List Field} {b c : Bool} (hg : P.eqGuardType P.depth t = false) (ht : P.underlying t = some (.struct (P.fieldsOf t))) (hp : P.stoodInHeld t = false) (hf : (P.fieldsOf t).toList = fs) (h : FE P xs ys fs b) (hc : b = c) : EqA P t xs ys c :=
 ⟨hg,fun w => by rw [show (10000 : Nat) = 9999 + 1 from rfl,run_equalIn_struct w 9999 t xs ys ht hp,hf,h w,hc]⟩
theorem r_aeql {t yt : TypeId} {x y : Operand} {xs ys : Array Value} {b : Bool} (hx : ρ x = .agg xs) (hy : ρ y = .agg ys) (he : EqA P t xs ys b) :
  (execOp ρ ⟨dst,.binOp .eql t x y yt,ty,pos,after,guard⟩).run P w = .ok (.value (.bool b)) w := by
 simp only [execOp,hx,hy,Sem.run_bind,run_eqGuard_agg w .eql t x y xs ys he.1,Result.andThen_ok,run_eql_struct,he.2,Sem.run_pure]
theorem r_aneq {t yt : TypeId} {x y : Operand} {xs ys : Array Value} {b : Bool} (hx : ρ x = .agg xs) (hy : ρ y = .agg ys) (he : EqA P t xs ys b) :
  (execOp ρ ⟨dst,.binOp .neq t x y yt,ty,pos,after,guard⟩).run P w = .ok (.value (.bool (!b))) w := by
 simp only [execOp,hx,hy,Sem.run_bind,run_eqGuard_agg w .neq t x y xs ys he.1,Result.andThen_ok,run_neq_struct,he.2,Sem.run_pure]
theorem r_aindexS {t e : TypeId} {x y : Operand} {cs : Array Value} {l : List Str} {k : IntKind} {i : Int} {n : Nat} {z : Value} {bytes : Nat} (hx : ρ x = .agg cs) (hl : cs = (l.map fun s => Value.string (Bs s)).toArray) (hy : ρ y = .int k i) (hu : P.underlying t = some (.array n e))
  (he : P.underlying e = some .string) (ht : TI P e z 1 bytes) (hn : l.length = n) (hb : 0 ≤ i ∧ i < n) :
  (execOp ρ ⟨dst,.index t x y,ty,pos,after,guard⟩).run P w = .ok (.value (.string (Bs (l.getD i.toNat [])))) w := by
 have hlt : i.toNat < l.length := by omega
 have hv : cs[i.toNat * 1]? = some (.string (Bs (l.getD i.toNat []))) := by
  subst hl; simp [List.getD_eq_getElem?_getD,hlt]
 simp only [execOp,Instr.index,hx,hy,asIntOf,Sem.run_bind,Sem.run_pure,Result.andThen_ok,run_underlying hu,if_pos hb,ht.sizeOf w,run_part1 he rfl hv w]
end runs
section ops
variable {P : Program} {ops : Array Oper} {Q : Exit → Act → World → Prop} {K : Act → World → Prop} {n : Nat} {a : Act} {w : World} {L : List (Nat × Value)}
theorem opk_gnew2 {j tj d : Nat} {want g e : Bool} {op : Op} {ty : TypeId} {pos : String} {after : Array Edge} {T : TypeId} {cs : List Value} (f : Nat → Value) (hA : Ag n a L) (hd : Nat.blt d n = true)
  (hj : (ops[j]?).bind (·.dst) = some tj) (hl : lookupL tj L = some (cV g (.bool e)))
  (hrun : (g && (e == want)) = true → (execOp a.eval ⟨some d,op,ty,pos,after,some (j,want)⟩).run P w = .ok (.value (f w.heap.size)) (w.alloc (.cells cs.toArray T (0,0))))
  (k : ∀ a' w' B,Ext w w' → w.heap.size ≤ B → ((g && (e == want)) = true → New w B w' ∧ Box w' B T cs) → Ag n a' ((d,cV (g && (e == want)) (f B)) :: L) → a' = a.put (some d) (cV (g && (e == want)) (f B)) → K a' w') : opK P ops Q ⟨some d,op,ty,pos,after,some (j,want)⟩ K a w :=
 opk_gext hA hd hj hl hrun fun a' h he => by
  by_cases hg : (g && (e == want)) = true
  ·refine k a' _ w.heap.size ?_ (Nat.le_refl _) (fun _ => ?_) h he
   ·rw [hg]; exact Ext.alloc _ _
   ·rw [hg]; exact ⟨⟨Nat.le_refl _,by simp⟩,Box.alloc _ _ _⟩
  ·have hg' : (g && (e == want)) = false := by simpa using hg
   refine k a' _ w.heap.size ?_ (Nat.le_refl _) (fun h' => absurd h' hg) h he
   rw [hg']; exact Chg.refl _ _
end ops
end
section
open Go.RowKit
section
variable {P : Program} {ops : Array Oper} {Q : Exit → Act → World → Prop}
def waitE (ops : Array Oper) (D : List (List Nat)) (T S E : List Nat) : Bool := (List.range ops.size).all fun j => T.contains j || S.contains j || E.all fun i => (D.getD j []).contains i
theorem mid_runX {X : Array Bool → Act → World → Prop} {Y : Nat → Value → World → World → Prop} {D : List (List Nat)} {T S E : List Nat} {F : List Nat} {V : Nat → Value → World → Prop} {n : Nat} {a0 : Act} {w0 : World} {L : List (Nat × Value)} (hA : Ag n a0 L)
  (hb : backOk ops = true) (hc : certOk ops D = true) (hES : ∀ e ∈ E,e ∈ S) (hw : waitE ops D T S E = true) (hdst : dstOk ops S = true) (hin : inOk ops n S = true)
  (stab : ∀ i ∈ S,∀ v w w',Chg F w w' → V i v w → V i v w')
  (each : ∀ i ∈ S,∀ o,ops[i]? = some o → ∀ a w,a.tmps.size = n → a.defers = [] → Chg F w0 w → (∀ t,(∀ j ∈ S,(ops[j]?).bind (·.dst) ≠ some t) → a.tmps.getD t undef = a0.tmps.getD t undef) →
   (∀ j ∈ S,j ∈ D.getD i [] → ∀ t,(ops[j]?).bind (·.dst) = some t → V j (a.tmps.getD t undef) w) →
   opK P ops Q o (fun a' w' => ∃ v,a' = a.put o.dst v ∧ Chg F w w' ∧ (o.dst.isSome = true → V i v w') ∧ Y i v w w') a w)
  (stepX : ∀ listed a w i o v w',Mid D T S ops F V a0 w0 listed a w → X listed a w → i ∈ S → ops[i]? = some o → listed.getD i false = false → i < listed.size → Chg F w w' → Y i v w w' → X (listed.setIfInBounds i true) (a.put o.dst v) w')
  (fin : ∀ fuel listed a w,Mid D T S ops F V a0 w0 listed a w → X listed a w → (∀ e ∈ E,listed.getD e false = true) → listed.toList.count false ≤ fuel → wpAny P .any ops Q fuel listed a w) :
  ∀ fuel listed a w,Mid D T S ops F V a0 w0 listed a w → X listed a w → listed.toList.count false ≤ fuel → wpAny P .any ops Q fuel listed a w := by
 intro fuel
 induction fuel with
 |zero =>
  intro listed a w hM hX hcount
  have hall : ∀ i,i < ops.size → listed.getD i false = true := by
   intro i hi
   have h0 : listed.toList.count false = 0 := by omega
   have hn := List.count_eq_zero.1 h0
   have hsz : i < listed.size := by rw [hM.size]; exact hi
   cases hv : listed[i] with
   |true => simp [Array.getD,hsz,hv]
   |false => exact absurd (by rw [← hv]; exact Array.mem_toList_iff.2 (Array.getElem_mem hsz)) hn
  refine fin 0 listed a w hM hX (fun e he => hall e ?_) hcount
  simp only [inOk,List.all_eq_true,Bool.and_eq_true,decide_eq_true_eq] at hin
  exact (hin e (hES e he)).1
 |succ fuel ih =>
  intro listed a w hM hX hcount
  by_cases hall : ∀ i ∈ E,listed.getD i false = true
  ·exact fin (fuel + 1) listed a w hM hX hall hcount
  ·have ⟨i0,hi0⟩ := Classical.not_forall.1 hall
   have ⟨hi0S,hi0l⟩ := Classical.not_imp.1 hi0
   have hi0l' : listed.getD i0 false = false := by simpa using hi0l
   simp only [inOk,List.all_eq_true,Bool.and_eq_true,decide_eq_true_eq] at hin
   have hrs := ready_some hb hM.size i0 (hin i0 (hES i0 hi0S)).1 hi0l'
   refine ⟨fun h => absurd h hrs,fun i hi => ?_⟩
   have hcl := cert_listed hc hM.closed hi
   obtain ⟨h1,o,ho,h2⟩ := mem_ready.1 hi
   have hlt : i < ops.size := (Array.getElem?_eq_some_iff.1 ho).1
   have hil : listed.getD i false = false := by simp [Array.getD,hM.size,hlt] at h1 ⊢; exact h1
   have hiS : i ∈ S := by
    simp only [waitE,List.all_eq_true,List.mem_range,Bool.or_eq_true,List.contains_iff_mem] at hw
    rcases hw i hlt with (hT | hS) | hall'
    ·rw [hM.old i hT hlt] at hil; cases hil
    ·exact hS
    ·have := hcl i0 (hall' i0 hi0S)
     rw [hi0l'] at this; cases this
   refine wpOp_of_opK ho (opK_mono (each i hiS o ho a w (by rw [hM.tsize,hA.size]) (by rw [hM.defers,hA.defs]) hM.chg hM.same (fun j hj hjD t ht => hM.vals j hj (hcl j hjD) t ht)) fun a' w' ⟨v,hav,hchg,hV,hY⟩ => ?_)
   refine ih _ a' w' ?_ (by subst hav; exact stepX listed a w i o v w' hM hX hiS ho hil (by rw [hM.size]; exact hlt) hchg hY) (by have := count_set listed i (by rw [hM.size]; exact hlt) h1; omega)
   have hils : i < listed.size := by rw [hM.size]; exact hlt
   subst hav
   have hdsti : (ops[i]?).bind (·.dst) = o.dst := by rw [ho]; rfl
   refine ⟨by simp [hM.size],fun j hj => ?_,fun j hj hjl => ?_,fun j hj x hx => ?_,hM.chg.trans hchg,?_,?_,fun t ht => ?_,fun j hj hjl t ht => ?_⟩
   ·rw [getD_set _ _ _ hils] at hj
    split at hj
    ·rename_i e; exact .inr (e ▸ hiS)
    ·exact hM.only j hj
   ·rw [getD_set _ _ _ hils]
    split
    ·rfl
    ·exact hM.old j hj hjl
   ·rw [getD_set _ _ _ hils] at hj ⊢
    split
    ·rfl
    ·split at hj
     ·rename_i e; subst e; exact hcl x hx
     ·exact hM.closed j hj x hx
   ·cases hd' : o.dst <;> simp [Act.put,hM.tsize]
   ·cases hd' : o.dst <;> simp [Act.put,hM.defers]
   ·have hne : o.dst ≠ some t := by rw [← hdsti]; exact ht i hiS
    rw [← hM.same t ht]
    cases hd' : o.dst with
    |none => rfl
    |some d => exact getD_setIfInBounds_ne _ _ _ _ _ (fun e => hne (by rw [hd',e]))
   ·by_cases e : j = i
    ·subst e
     rw [hdsti] at ht
     rw [ht] at hV ⊢
     have hdn : t < a.tmps.size := by
      have := (hin j hj).2
      rw [hdsti,ht] at this
      rw [hM.tsize,hA.size]
      simpa using this
     show V j ((a.tmps.setIfInBounds t v).getD t undef) w'
     rw [getD_setIfInBounds_self _ _ _ _ hdn]
     exact hV rfl
    ·have hjl' : listed.getD j false = true := by
      rw [getD_set _ _ _ hils,if_neg e] at hjl; exact hjl
     have hv := stab j hj _ _ _ hchg (hM.vals j hj hjl' t ht)
     have hne : o.dst ≠ some t := by
      intro h
      simp only [dstOk,List.all_eq_true,Bool.or_eq_true,beq_iff_eq,bne_iff_ne] at hdst
      rcases hdst i hiS j hj with (h' | h') | h'
      ·exact e h'.symm
      ·rw [hdsti,h] at h'; cases h'
      ·exact h' (by rw [hdsti,h,ht])
     cases hd' : o.dst with
     |none => exact hv
     |some d =>
      show V j ((a.tmps.setIfInBounds d v).getD t undef) w'
      rw [getD_setIfInBounds_ne _ _ _ _ _ (fun e' => hne (by rw [hd',e']))]
      exact hv
theorem mid_run {D : List (List Nat)} {T S E : List Nat} {F : List Nat} {V : Nat → Value → World → Prop} {n : Nat} {a0 : Act} {w0 : World} {L : List (Nat × Value)} (hA : Ag n a0 L)
  (hb : backOk ops = true) (hc : certOk ops D = true) (hES : ∀ e ∈ E,e ∈ S) (hw : waitE ops D T S E = true) (hdst : dstOk ops S = true) (hin : inOk ops n S = true)
  (stab : ∀ i ∈ S,∀ v w w',Chg F w w' → V i v w → V i v w')
  (each : ∀ i ∈ S,∀ o,ops[i]? = some o → ∀ a w,a.tmps.size = n → a.defers = [] → Chg F w0 w → (∀ t,(∀ j ∈ S,(ops[j]?).bind (·.dst) ≠ some t) → a.tmps.getD t undef = a0.tmps.getD t undef) →
   (∀ j ∈ S,j ∈ D.getD i [] → ∀ t,(ops[j]?).bind (·.dst) = some t → V j (a.tmps.getD t undef) w) →
   opK P ops Q o (fun a' w' => ∃ v,a' = a.put o.dst v ∧ Chg F w w' ∧ (o.dst.isSome = true → V i v w')) a w)
  (fin : ∀ fuel listed a w,Mid D T S ops F V a0 w0 listed a w → (∀ e ∈ E,listed.getD e false = true) → listed.toList.count false ≤ fuel → wpAny P .any ops Q fuel listed a w) :
  ∀ fuel listed a w,Mid D T S ops F V a0 w0 listed a w → listed.toList.count false ≤ fuel → wpAny P .any ops Q fuel listed a w :=
 fun fuel listed a w hM hcount => mid_runX (X := fun _ _ _ => True) (Y := fun _ _ _ _ => True) hA hb hc hES hw hdst hin stab (fun i hi o ho a w h1 h2 h3 h4 h5 => opK_mono (each i hi o ho a w h1 h2 h3 h4 h5) fun a' w' ⟨v,h1,h2,h3⟩ => ⟨v,h1,h2,h3,trivial⟩)
  (fun _ _ _ _ _ _ _ _ _ _ _ _ _ _ _ => trivial) (fun fuel listed a w hM _ h1 h2 => fin fuel listed a w hM h1 h2) fuel listed a w hM trivial hcount
def PRF (P : Program) (ops : Array Oper) (Q : Exit → Act → World → Prop) (D : List (List Nat)) (T Fs : List Nat) (V : Nat → Value → World → Prop) (a0 : Act) (w0 : World) : Prop :=
 ∀ fuel listed a,Mid D T Fs ops [] V a0 w0 listed a w0 → listed.toList.count false ≤ fuel → wpAny P .any ops Q fuel listed a w0
theorem PRF_start {D : List (List Nat)} {T Fs : List Nat} {V : Nat → Value → World → Prop} {a0 : Act} {w0 : World} (hc : certOk ops D = true) (hd : doneOk D T = true) (hap : apartOk T Fs = true) (h : PRF P ops Q D T Fs V a0 w0) : PR P ops Q T a0 w0 := by
 intro fuel listed hs hl hcount
 refine h fuel listed a0 ⟨hs,fun i hi => ?_,fun i hi hlt => (hl i hlt).2 hi,fun j hj x hx => ?_,Chg.refl _ _,rfl,rfl,fun _ _ => rfl,fun i hi hli t ht => ?_⟩ hcount
 ·have hlt : i < ops.size := by
   rcases Nat.lt_or_ge i ops.size with h | h
   ·exact h
   ·simp [Array.getD,hs,Nat.not_lt.2 h] at hi
  exact .inl ((hl i hlt).1 hi)
 ·have hlt : j < ops.size := by
   rcases Nat.lt_or_ge j ops.size with h | h
   ·exact h
   ·simp [Array.getD,hs,Nat.not_lt.2 h] at hj
  have hjT := (hl j hlt).1 hj
  simp only [doneOk,List.all_eq_true,List.contains_iff_mem] at hd
  have hxT := hd j hjT x hx
  have hxlt : x < ops.size := by
   simp only [certOk,List.all_eq_true,List.mem_range,Bool.and_eq_true,decide_eq_true_eq] at hc
   have := (hc j hlt x hx).1
   omega
  exact (hl x hxlt).2 hxT
 ·have hlt : i < ops.size := by
   cases ho : ops[i]? with
   |none => rw [ho] at ht; cases ht
   |some o => exact (Array.getElem?_eq_some_iff.1 ho).1
  have hiT := (hl i hlt).1 hli
  simp only [apartOk,List.all_eq_true,Bool.not_eq_true',← Bool.not_eq_true,List.contains_iff_mem] at hap
  exact absurd hiT (hap i hi)
theorem Mid.wider {D : List (List Nat)} {T S Fs F : List Nat} {V : Nat → Value → World → Prop} {a0 a : Act} {w0 : World} {listed : Array Bool} (hM : Mid D T Fs ops [] V a0 w0 listed a w0) (hap : apartOk T S = true) (hap2 : apartOk Fs S = true) : Mid D T (S ++ Fs) ops F V a0 w0 listed a w0 := by
 refine ⟨hM.size,fun i hi => (hM.only i hi).imp_right (fun h => List.mem_append.2 (.inr h)),hM.old,hM.closed,Chg.refl _ _,hM.tsize,hM.defers,fun t ht => hM.same t (fun i hi => ht i (List.mem_append.2 (.inr hi))),fun i hi hli t ht => ?_⟩
 rcases List.mem_append.1 hi with hS | hF
 ·exfalso
  simp only [apartOk,List.all_eq_true,Bool.not_eq_true',← Bool.not_eq_true,List.contains_iff_mem] at hap hap2
  rcases hM.only i hli with h | h
  ·exact hap i hS h
  ·exact hap2 i hS h
 ·exact hM.vals i hF hli t ht
theorem PRF_seg {D : List (List Nat)} {T S Fs : List Nat} {F : List Nat} {V : Nat → Value → World → Prop} {n : Nat} {a0 : Act} {w0 : World} {L : List (Nat × Value)} (hA : Ag n a0 L)
  (hb : backOk ops = true) (hc : certOk ops D = true) (hw : waitE ops D T (S ++ Fs) S = true) (hdst : dstOk ops (S ++ Fs) = true) (hin : inOk ops n (S ++ Fs) = true) (hap : apartOk T S = true) (hap2 : apartOk Fs S = true)
  (stab : ∀ i ∈ S ++ Fs,∀ v w w',Chg F w w' → V i v w → V i v w')
  (each : ∀ i ∈ S ++ Fs,∀ o,ops[i]? = some o → ∀ a w,a.tmps.size = n → a.defers = [] → Chg F w0 w → (∀ t,(∀ j ∈ S ++ Fs,(ops[j]?).bind (·.dst) ≠ some t) → a.tmps.getD t undef = a0.tmps.getD t undef) →
   (∀ j ∈ S ++ Fs,j ∈ D.getD i [] → ∀ t,(ops[j]?).bind (·.dst) = some t → V j (a.tmps.getD t undef) w) →
   opK P ops Q o (fun a' w' => ∃ v,a' = a.put o.dst v ∧ Chg F w w' ∧ (o.dst.isSome = true → V i v w')) a w)
  (fin : ∀ a w,a.tmps.size = n → a.defers = [] → Chg F w0 w → (∀ t,(∀ j ∈ S ++ Fs,(ops[j]?).bind (·.dst) ≠ some t) → a.tmps.getD t undef = a0.tmps.getD t undef) →
   (∀ j ∈ S,∀ t,(ops[j]?).bind (·.dst) = some t → V j (a.tmps.getD t undef) w) → PRF P ops Q D (T ++ S) Fs V a w) : PRF P ops Q D T Fs V a0 w0 := by
 intro fuel listed a hM hcount
 refine mid_run (E := S) hA hb hc (fun e he => List.mem_append.2 (.inl he)) hw hdst hin stab each (fun fuel listed a w hM hall hcount => ?_) fuel listed a w0 (hM.wider hap hap2) hcount
 refine fin a w (by rw [hM.tsize,hA.size]) (by rw [hM.defers,hA.defs]) hM.chg hM.same (fun j hj t ht => hM.vals j (List.mem_append.2 (.inl hj)) (hall j hj) t ht) fuel listed a ?_ hcount
 refine ⟨hM.size,fun i hi => ?_,fun i hi hlt => ?_,hM.closed,Chg.refl _ _,rfl,rfl,fun _ _ => rfl,fun i hi hli t ht => hM.vals i (List.mem_append.2 (.inr hi)) hli t ht⟩
 ·rcases hM.only i hi with h | h
  ·exact .inl (List.mem_append.2 (.inl h))
  ·rcases List.mem_append.1 h with h | h
   ·exact .inl (List.mem_append.2 (.inr h))
   ·exact .inr h
 ·rcases List.mem_append.1 hi with h | h
  ·exact hM.old i h hlt
  ·exact hall i h
theorem PRF_join {D : List (List Nat)} {T Fs : List Nat} {V : Nat → Value → World → Prop} {n : Nat} {a0 : Act} {w0 : World} {L : List (Nat × Value)} (hA : Ag n a0 L)
  (hb : backOk ops = true) (hc : certOk ops D = true) (hw : waitE ops D T Fs Fs = true) (hdst : dstOk ops Fs = true) (hin : inOk ops n Fs = true)
  (stab : ∀ i ∈ Fs,∀ v w w',Chg [] w w' → V i v w → V i v w')
  (each : ∀ i ∈ Fs,∀ o,ops[i]? = some o → ∀ a w,a.tmps.size = n → a.defers = [] → Chg [] w0 w → (∀ t,(∀ j ∈ Fs,(ops[j]?).bind (·.dst) ≠ some t) → a.tmps.getD t undef = a0.tmps.getD t undef) →
   (∀ j ∈ Fs,j ∈ D.getD i [] → ∀ t,(ops[j]?).bind (·.dst) = some t → V j (a.tmps.getD t undef) w) →
   opK P ops Q o (fun a' w' => ∃ v,a' = a.put o.dst v ∧ Chg [] w w' ∧ (o.dst.isSome = true → V i v w')) a w)
  (fin : ∀ a w,a.tmps.size = n → a.defers = [] → Chg [] w0 w → (∀ t,(∀ j ∈ Fs,(ops[j]?).bind (·.dst) ≠ some t) → a.tmps.getD t undef = a0.tmps.getD t undef) →
   (∀ j ∈ Fs,∀ t,(ops[j]?).bind (·.dst) = some t → V j (a.tmps.getD t undef) w) → PR P ops Q (T ++ Fs) a w) : PRF P ops Q D T Fs V a0 w0 := by
 intro fuel listed a hM hcount
 refine mid_run (E := Fs) hA hb hc (fun e he => he) hw hdst hin stab each (fun fuel listed a w hM hall hcount => ?_) fuel listed a w0 hM hcount
 refine fin a w (by rw [hM.tsize,hA.size]) (by rw [hM.defers,hA.defs]) hM.chg hM.same (fun j hj t ht => hM.vals j hj (hall j hj) t ht) fuel listed hM.size (fun i hi => ?_) hcount
 exact ⟨fun h => List.mem_append.2 (hM.only i h),fun h => (List.mem_append.1 h).elim (fun h => hM.old i h hi) (fun h => hall i h)⟩
theorem PRF_one {D : List (List Nat)} {T Fs : List Nat} {c : Nat} {oc : Oper} {V : Nat → Value → World → Prop} {n : Nat} {a0 : Act} {w0 : World} {L : List (Nat × Value)} (hA : Ag n a0 L)
  (hb : backOk ops = true) (hc : certOk ops D = true) (hw : waitE ops D T (c :: Fs) [c] = true) (hdst : dstOk ops (c :: Fs) = true) (hin : inOk ops n (c :: Fs) = true) (hap : apartOk T [c] = true) (hap2 : apartOk Fs [c] = true) (hoc : ops[c]? = some oc)
  (const : ∀ i ∈ Fs,∀ v w w',V i v w → V i v w')
  (each : ∀ i ∈ Fs,∀ o,ops[i]? = some o → ∀ a,a.tmps.size = n → a.defers = [] → (∀ t,(∀ j ∈ Fs,(ops[j]?).bind (·.dst) ≠ some t) → a.tmps.getD t undef = a0.tmps.getD t undef) →
   (∀ j ∈ Fs,j ∈ D.getD i [] → ∀ t,(ops[j]?).bind (·.dst) = some t → V j (a.tmps.getD t undef) w0) →
   opK P ops Q o (fun a' w' => ∃ v,a' = a.put o.dst v ∧ w' = w0 ∧ (o.dst.isSome = true → V i v w')) a w0)
  (core : ∀ a,a.tmps.size = n → a.defers = [] → (∀ t,(∀ j ∈ Fs,(ops[j]?).bind (·.dst) ≠ some t) → a.tmps.getD t undef = a0.tmps.getD t undef) →
   (∀ j ∈ Fs,j ∈ D.getD c [] → ∀ t,(ops[j]?).bind (·.dst) = some t → V j (a.tmps.getD t undef) w0) →
   opK P ops Q oc (fun a' w' => ∃ v,a' = a.put oc.dst v ∧ PRF P ops Q D (T ++ [c]) Fs V a' w') a w0) : PRF P ops Q D T Fs V a0 w0 := by
 have hlc : c < ops.size := (Array.getElem?_eq_some_iff.1 hoc).1
 have hcT : c ∉ T := by
  simp only [apartOk,List.all_eq_true,Bool.not_eq_true',← Bool.not_eq_true,List.contains_iff_mem] at hap
  exact hap c (by simp)
 have hcF : c ∉ Fs := by
  simp only [apartOk,List.all_eq_true,Bool.not_eq_true',← Bool.not_eq_true,List.contains_iff_mem] at hap2
  exact hap2 c (by simp)
 have hdst' := hdst
 simp only [dstOk,List.all_eq_true,Bool.or_eq_true,beq_iff_eq,bne_iff_ne] at hdst'
 have hin' := hin
 simp only [inOk,List.all_eq_true,Bool.and_eq_true,decide_eq_true_eq] at hin'
 have sep : ∀ i ∈ c :: Fs,∀ j ∈ c :: Fs,j ≠ i → ∀ t,(ops[j]?).bind (·.dst) = some t → (ops[i]?).bind (·.dst) ≠ some t := by
  intro i hi j hj e t ht h
  rcases hdst' i hi j hj with (h' | h') | h'
  ·exact e h'.symm
  ·rw [h] at h'; cases h'
  ·exact h' (by rw [h,ht])
 have putne : ∀ (a : Act) (o : Oper) (v : Value) (t : Nat),o.dst ≠ some t → (a.put o.dst v).tmps.getD t undef = a.tmps.getD t undef := by
  intro a o v t hne
  cases hd' : o.dst with
  |none => rfl
  |some d => exact getD_setIfInBounds_ne _ _ _ _ _ (fun e' => hne (by rw [hd',e']))
 intro fuel
 induction fuel with
 |zero =>
  intro listed a hM hcount
  exfalso
  have hcl : listed.getD c false = false := by
   cases hh : listed.getD c false with
   |false => rfl
   |true => exact ((hM.only c hh).elim hcT hcF).elim
  have h0 : listed.toList.count false = 0 := by omega
  have hn := List.count_eq_zero.1 h0
  have hsz : c < listed.size := by rw [hM.size]; exact hlc
  have hv : listed[c] = false := by simpa [Array.getD,hsz] using hcl
  exact hn (by rw [← hv]; exact Array.mem_toList_iff.2 (Array.getElem_mem hsz))
 |succ fuel ih =>
  intro listed a hM hcount
  have hcl0 : listed.getD c false = false := by
   cases hh : listed.getD c false with
   |false => rfl
   |true => exact ((hM.only c hh).elim hcT hcF).elim
  have hrs := ready_some hb hM.size c hlc hcl0
  refine ⟨fun h => absurd h hrs,fun i hi => ?_⟩
  have hcl := cert_listed hc hM.closed hi
  obtain ⟨h1,o,ho,h2⟩ := mem_ready.1 hi
  have hlt : i < ops.size := (Array.getElem?_eq_some_iff.1 ho).1
  have hils : i < listed.size := by rw [hM.size]; exact hlt
  have hil : listed.getD i false = false := by simp [Array.getD,hM.size,hlt] at h1 ⊢; exact h1
  have hcnt := count_set listed i hils h1
  have hdsti : (ops[i]?).bind (·.dst) = o.dst := by rw [ho]; rfl
  have hiS : i = c ∨ i ∈ Fs := by
   simp only [waitE,List.all_eq_true,List.mem_range,Bool.or_eq_true,List.contains_iff_mem,List.mem_singleton,forall_eq] at hw
   rcases hw i hlt with (hT | hS) | hall'
   ·rw [hM.old i hT hlt] at hil; cases hil
   ·exact List.mem_cons.1 hS
   ·have := hcl c hall'
    rw [hcl0] at this; cases this
  have hclosed : ∀ j,(listed.setIfInBounds i true).getD j false = true → ∀ x ∈ D.getD j [],(listed.setIfInBounds i true).getD x false = true := by
   intro j hj x hx
   rw [getD_set _ _ _ hils] at hj ⊢
   split
   ·rfl
   ·split at hj
    ·rename_i e; subst e; exact hcl x hx
    ·exact hM.closed j hj x hx
  rcases hiS with rfl | hiF
  ·rw [hoc] at ho; cases ho
   refine wpOp_of_opK hoc (opK_mono (core a (by rw [hM.tsize,hA.size]) (by rw [hM.defers,hA.defs]) hM.same (fun j hj hjD t ht => hM.vals j hj (hcl j hjD) t ht)) fun a' w' ⟨v,hav,hk⟩ => ?_)
   refine hk fuel _ a' ⟨by simp [hM.size],fun j hj => ?_,fun j hj hjl => ?_,hclosed,Chg.refl _ _,rfl,rfl,fun _ _ => rfl,fun j hj hjl t ht => ?_⟩ (by omega)
   ·rw [getD_set _ _ _ hils] at hj
    split at hj
    ·rename_i e; exact .inl (by simp [e])
    ·exact (hM.only j hj).imp_left (fun h => List.mem_append.2 (.inl h))
   ·rw [getD_set _ _ _ hils]
    split
    ·rfl
    ·rename_i e
     rcases List.mem_append.1 hj with h | h
     ·exact hM.old j h hjl
     ·exact absurd (List.mem_singleton.1 h) e
   ·have hjc : j ≠ i := fun e => hcF (e ▸ hj)
    rw [getD_set _ _ _ hils,if_neg hjc] at hjl
    have := hM.vals j hj hjl t ht
    rw [hav,putne a oc v t (by rw [← hdsti]; exact sep i (by simp) j (by simp [hj]) hjc t ht)]
    exact const j hj _ _ _ this
  ·refine wpOp_of_opK ho (opK_mono (each i hiF o ho a (by rw [hM.tsize,hA.size]) (by rw [hM.defers,hA.defs]) hM.same (fun j hj hjD t ht => hM.vals j hj (hcl j hjD) t ht)) fun a' w' ⟨v,hav,hw',hV⟩ => ?_)
   subst hw'
   subst hav
   refine ih _ _ ⟨by simp [hM.size],fun j hj => ?_,fun j hj hjl => ?_,hclosed,Chg.refl _ _,?_,?_,fun t ht => ?_,fun j hj hjl t ht => ?_⟩ (by omega)
   ·rw [getD_set _ _ _ hils] at hj
    split at hj
    ·rename_i e; exact .inr (e ▸ hiF)
    ·exact hM.only j hj
   ·rw [getD_set _ _ _ hils]
    split
    ·rfl
    ·exact hM.old j hj hjl
   ·cases hd' : o.dst <;> simp [Act.put,hM.tsize]
   ·cases hd' : o.dst <;> simp [Act.put,hM.defers]
   ·rw [← hM.same t ht]
    exact putne a o v t (by rw [← hdsti]; exact ht i hiF)
   ·by_cases e : j = i
    ·subst e
     rw [hdsti] at ht
     rw [ht] at hV ⊢
     have hdn : t < a.tmps.size := by
      have := (hin' j (by simp [hj])).2
      rw [hdsti,ht] at this
      rw [hM.tsize,hA.size]
      simpa using this
     show V j ((a.tmps.setIfInBounds t v).getD t undef) _
     rw [getD_setIfInBounds_self _ _ _ _ hdn]
     exact hV rfl
    ·have hjl' : listed.getD j false = true := by
      rw [getD_set _ _ _ hils,if_neg e] at hjl; exact hjl
     rw [putne a o v t (by rw [← hdsti]; exact sep i (by simp [hiF]) j (by simp [hj]) e t ht)]
     exact hM.vals j hj hjl' t ht
theorem PRF.congr {D : List (List Nat)} {T Fs : List Nat} {V V' : Nat → Value → World → Prop} {a0 : Act} {w0 : World} (hv : ∀ i ∈ Fs,V i = V' i) (h : PRF P ops Q D T Fs V' a0 w0) : PRF P ops Q D T Fs V a0 w0 :=
 fun fuel listed a hM hcount => h fuel listed a ⟨hM.size,hM.only,hM.old,hM.closed,hM.chg,hM.tsize,hM.defers,hM.same,fun i hi hli t ht => by rw [← hv i hi]; exact hM.vals i hi hli t ht⟩ hcount
theorem VL_skip (Ef : List (Nat × (Value → World → Prop))) (i : Nat) : ∀ E : List (Nat × (Value → World → Prop)),((E.map (·.1)).all fun k => !(Nat.beq i k)) = true → VL (E ++ Ef) i = VL Ef i
 |[],_ => rfl
 |(k,p) :: r,h => by
  simp only [List.map_cons,List.all_cons,Bool.and_eq_true,Bool.not_eq_true'] at h
  have ih := VL_skip Ef i r h.2
  rw [← ih]
  funext v w
  show (bif Nat.beq i k then p v w else VL (r ++ Ef) i v w) = _
  rw [h.1]; rfl
variable {n : Nat} {L : List (Nat × Value)}
theorem startF {D : List (List Nat)} {T Fs : List Nat} {Ef : List (Nat × (Value → World → Prop))} {a0 : Act} {w0 : World} (hchk : (certOk ops D && doneOk D T && apartOk T Fs) = true) (h : PRF P ops Q D T Fs (VL Ef) a0 w0) : PR P ops Q T a0 w0 := by
 simp only [Bool.and_eq_true] at hchk
 exact PRF_start hchk.1.1 hchk.1.2 hchk.2 h
theorem parF {D : List (List Nat)} {T S Fs : List Nat} {F KE : List Nat} {E Ef : List (Nat × (Value → World → Prop))} {a0 : Act} {w0 : World} (hA : Ag n a0 L) (hk : E.map (·.1) = KE)
  (hchk : (backOk ops && certOk ops D && waitE ops D T (S ++ Fs) S && dstOk ops (S ++ Fs) && inOk ops n (S ++ Fs) && apartOk T S && apartOk Fs S && Fs.all (fun i => KE.all fun k => !(Nat.beq i k))) = true)
  (stab : StabS F (VL (E ++ Ef)) (S ++ Fs))
  (each : EachS ops (fun i o => ∀ a w,Turn ops D (S ++ Fs) F (VL (E ++ Ef)) n a0 w0 i a w → opK P ops Q o (Over F (VL (E ++ Ef)) i o.dst a w) a w) (S ++ Fs))
  (fin : ∀ a w,Chg F w0 w → (∀ L',SubL L L' → keysOk ops (S ++ Fs) L' = true → Ag n a L') → (∀ j,S.contains j = true → ∀ t,(ops[j]?).bind (·.dst) = some t → VL (E ++ Ef) j (a.tmps.getD t undef) w) → PRF P ops Q D (T ++ S) Fs (VL Ef) a w) : PRF P ops Q D T Fs (VL Ef) a0 w0 := by
 subst hk
 simp only [Bool.and_eq_true] at hchk
 obtain ⟨⟨⟨⟨⟨⟨⟨h1,h2⟩,h3⟩,h4⟩,h5⟩,h6⟩,h7⟩,h8⟩ := hchk
 have hv : ∀ i ∈ Fs,VL (E ++ Ef) i = VL Ef i := fun i hi => VL_skip Ef i E (List.all_eq_true.1 h8 i hi)
 refine PRF.congr (fun i hi => (hv i hi).symm) (PRF_seg hA h1 h2 h3 h4 h5 h6 h7 stab.mem (fun i hi o ho a w hs hd hc hsame hvv => each.mem i hi o ho a w ⟨hs,hd,hc,hsame,fun j hj t ht => ?_⟩) (fun a w hs hd hc hsame hvv => PRF.congr hv (fin a w hc (fun L' hsub hk => same_ag hA hs hd hsame L' hsub hk) (fun j hj t ht => hvv j (by simpa using hj) t ht))))
 simp only [Bool.and_eq_true,List.contains_iff_mem] at hj
 exact hvv j hj.1 hj.2 t ht
theorem joinF {D : List (List Nat)} {T Fs : List Nat} {Ef : List (Nat × (Value → World → Prop))} {a0 : Act} {w0 : World} (hA : Ag n a0 L)
  (hchk : (backOk ops && certOk ops D && waitE ops D T Fs Fs && dstOk ops Fs && inOk ops n Fs) = true)
  (stab : StabS [] (VL Ef) Fs)
  (each : EachS ops (fun i o => ∀ a w,Turn ops D Fs [] (VL Ef) n a0 w0 i a w → opK P ops Q o (Over [] (VL Ef) i o.dst a w) a w) Fs)
  (fin : ∀ a w,Chg [] w0 w → (∀ L',SubL L L' → keysOk ops Fs L' = true → Ag n a L') → (∀ j,Fs.contains j = true → ∀ t,(ops[j]?).bind (·.dst) = some t → VL Ef j (a.tmps.getD t undef) w) → PR P ops Q (T ++ Fs) a w) : PRF P ops Q D T Fs (VL Ef) a0 w0 := by
 simp only [Bool.and_eq_true] at hchk
 obtain ⟨⟨⟨⟨h1,h2⟩,h3⟩,h4⟩,h5⟩ := hchk
 refine PRF_join hA h1 h2 h3 h4 h5 stab.mem (fun i hi o ho a w hs hd hc hsame hvv => each.mem i hi o ho a w ⟨hs,hd,hc,hsame,fun j hj t ht => ?_⟩) (fun a w hs hd hc hsame hvv => fin a w hc (fun L' hsub hk => same_ag hA hs hd hsame L' hsub hk) (fun j hj t ht => hvv j (by simpa using hj) t ht))
 simp only [Bool.and_eq_true,List.contains_iff_mem] at hj
 exact hvv j hj.1 hj.2 t ht
def OverF (V : Nat → Value → World → Prop) (i : Nat) (dst : Option Nat) (a : Act) (w : World) (a' : Act) (w' : World) : Prop := ∃ v,a' = a.put dst v ∧ w' = w ∧ (dst.isSome = true → V i v w')
theorem oneF {D : List (List Nat)} {T Fs : List Nat} {c : Nat} {oc : Oper} {Ef : List (Nat × (Value → World → Prop))} {a0 : Act} {w0 : World} (hA : Ag n a0 L) (hoc : ops[c]? = some oc)
  (hchk : (backOk ops && certOk ops D && waitE ops D T (c :: Fs) [c] && dstOk ops (c :: Fs) && inOk ops n (c :: Fs) && apartOk T [c] && apartOk Fs [c]) = true)
  (const : ∀ i ∈ Fs,∀ v w w',VL Ef i v w → VL Ef i v w')
  (each : EachS ops (fun i o => ∀ a,Turn ops D Fs [] (VL Ef) n a0 w0 i a w0 → opK P ops Q o (OverF (VL Ef) i o.dst a w0) a w0) Fs)
  (core : ∀ a,Turn ops D Fs [] (VL Ef) n a0 w0 c a w0 → opK P ops Q oc (fun a' w' => ∃ v,a' = a.put oc.dst v ∧ PRF P ops Q D (T ++ [c]) Fs (VL Ef) a' w') a w0) : PRF P ops Q D T Fs (VL Ef) a0 w0 := by
 simp only [Bool.and_eq_true] at hchk
 obtain ⟨⟨⟨⟨⟨⟨h1,h2⟩,h3⟩,h4⟩,h5⟩,h6⟩,h7⟩ := hchk
 refine PRF_one hA h1 h2 h3 h4 h5 h6 h7 hoc const (fun i hi o ho a hs hd hsame hvv => each.mem i hi o ho a ⟨hs,hd,Chg.refl _ _,hsame,fun j hj t ht => ?_⟩) (fun a hs hd hsame hvv => core a ⟨hs,hd,Chg.refl _ _,hsame,fun j hj t ht => ?_⟩)
 ·simp only [Bool.and_eq_true,List.contains_iff_mem] at hj
  exact hvv j hj.1 hj.2 t ht
 ·simp only [Bool.and_eq_true,List.contains_iff_mem] at hj
  exact hvv j hj.1 hj.2 t ht
def ConstS (V : Nat → Value → World → Prop) : List Nat → Prop
 |[] => True
 |i :: r => (∀ v w w',V i v w → V i v w') ∧ ConstS V r
theorem constF {V : Nat → Value → World → Prop} : ∀ {S : List Nat},ConstS V S → ∀ i ∈ S,∀ v w w',V i v w → V i v w'
 |[],_,i,hi => by cases hi
 |j :: r,⟨h1,h2⟩,i,hi => by
  rcases List.mem_cons.1 hi with rfl | hi
  ·exact h1
  ·exact constF h2 i hi
def blk : Value → Nat
 |.pointer (some a) => a.block
 |.slice (some a) _ _ => a.block
 |_ => 0
end
end
section
open Go.RowKit
section ops
variable {P : Program} {ops : Array Oper} {Q : Exit → Act → World → Prop} {K : Act → World → Prop} {n : Nat} {a : Act} {w : World} {L : List (Nat × Value)}
end ops
theorem Box.cellA {α : Type} {w : World} {B : Nat} {T : TypeId} {cs : List Value} (l : List α) (f : α → Value) (d : α) (h : Box w B T cs) (hcs : cs = l.map f) {i : Int} {n : Nat} (hn : l.length = n) (hi : 0 ≤ i ∧ i < n) : w.cell? ((⟨B,0,none⟩ : Addr).add (i.toNat * 1)) = some (f (l.getD i.toNat d)) := by
 subst hcs
 rw [Addr.add_lit,Nat.zero_add,Nat.mul_one]
 have hlt : i.toNat < l.length := by omega
 exact h.cell _ _ (by simp [List.getD_eq_getElem?_getD,hlt])
section short
variable {P : Program} {ops : Array Oper} {Q : Exit → Act → World → Prop} {n : Nat} {a : Act} {w : World} {L : List (Nat × Value)}
theorem sqv {d : Nat} {op : Op} {ty : TypeId} {pos : String} {after : Array Edge} {v : Value} {w' : World} {rest : List Oper} (hA : Ag n a L) (hd : Nat.blt d n = true)
  (hrun : (execOp a.eval ⟨some d,op,ty,pos,after,none⟩).run P w = .ok (.value v) w')
  (k : ∀ a',Ag n a' ((d,v) :: L) → wpList P ops Q rest a' w') : wpList P ops Q (⟨some d,op,ty,pos,after,none⟩ :: rest) a w :=
 sq (opk_val hA hd hrun fun a' h _ => k a' h)
theorem ovr {d i : Nat} {op : Op} {ty : TypeId} {pos : String} {after : Array Edge} {v : Value} {F : List Nat} {V : Nat → Value → World → Prop} (hA : Ag n a L) (hd : Nat.blt d n = true)
  (hrun : (execOp a.eval ⟨some d,op,ty,pos,after,none⟩).run P w = .ok (.value v) w)
  (hV : (some d).isSome = true → V i v w) : opK P ops Q ⟨some d,op,ty,pos,after,none⟩ (Over F V i (some d) a w) a w :=
 opk_val hA hd hrun fun _ _ e => ⟨_,e,Chg.refl _ _,hV⟩
end short
def RunU (P : Program) (m : Sem Unit) (w : World) (bx : List Nat) (K : World → Prop) : Prop :=
 ∃ w',m.run P w = .ok () w' ∧ NoTouch bx w w' ∧ w.heap.size ≤ w'.heap.size ∧ K w'
section ops2
variable {P : Program} {ops : Array Oper} {Q : Exit → Act → World → Prop} {K : Act → World → Prop} {n : Nat} {a : Act} {w : World} {L : List (Nat × Value)}
theorem opk_runU {op : Op} {ty : TypeId} {pos : String} {after : Array Edge} {m : Sem Unit} {bx : List Nat} {R : World → Prop} (hA : Ag n a L)
  (hrun : ∀ w',m.run P w = .ok () w' → (execOp a.eval ⟨none,op,ty,pos,after,none⟩).run P w = .ok .skip w') (hk : RunU P m w bx R)
  (k : ∀ a' w',Ag n a' L → NoTouch bx w w' → w.heap.size ≤ w'.heap.size → R w' → K a' w') : opK P ops Q ⟨none,op,ty,pos,after,none⟩ K a w := by
 obtain ⟨w',h1,h2,h3,h4⟩ := hk
 exact opk_skip hA (hrun w' h1) fun a' h => k a' w' h h2 h3 h4
end ops2
section runs2
variable {P : Program} {ρ : Operand → Value} {w : World} {dst : Option Nat} {ty : TypeId} {pos : String} {after : Array Edge} {guard : Option (Nat × Bool)}
theorem r_nilCheckP {x : Operand} {p : Addr} (hx : ρ x = .pointer (some p)) : (execOp ρ ⟨dst,.nilCheck x,ty,pos,after,guard⟩).run P w = .ok (.value (.pointer (some p))) w := by
 simp [execOp,hx]
theorem r_nilCheckF {x : Operand} {f : FuncId} {fst cap : Array Value} (hx : ρ x = .func (.func f) fst cap) : (execOp ρ ⟨dst,.nilCheck x,ty,pos,after,guard⟩).run P w = .ok (.value (.func (.func f) fst cap)) w := by
 simp [execOp,hx]
theorem r_makeMap {t : TypeId} {v : Value} {w' : World} (hr : (Instr.makeMap t none).run P w = .ok v w') : (execOp ρ ⟨dst,.makeMap t none,ty,pos,after,guard⟩).run P w = .ok (.value v) w' := by
 simp [execOp,hr]
theorem r_makeSlice {t : TypeId} {x y : Operand} {v1 v2 v : Value} {w' : World} (hx : ρ x = v1) (hy : ρ y = v2) (hr : (Instr.makeSlice t v1 v2).run P w = .ok v w') : (execOp ρ ⟨dst,.makeSlice t x y,ty,pos,after,guard⟩).run P w = .ok (.value v) w' := by
 simp [execOp,hx,hy,hr]
theorem r_lookup {t : TypeId} {x y : Operand} {ok : Bool} {v1 v2 v : Value} {w' : World} (hx : ρ x = v1) (hy : ρ y = v2) (hr : (Instr.lookup t v1 v2 ok).run P w = .ok v w') : (execOp ρ ⟨dst,.lookup t x y ok,ty,pos,after,guard⟩).run P w = .ok (.value v) w' := by
 simp [execOp,hx,hy,hr]
def Body (P : Program) (f : FuncId) : Prop := ∃ fn,P.funcs[f]? = some fn ∧ fn.name ≠ "runtime.NumGoroutine" ∧ fn.body.isSome = true
theorem r_callO {x : Operand} {f : FuncId} {xs : Array Operand} {ts : Array TypeId} {args fst cap : Array Value} (hf : Body P f) (hx : xs.map ρ = args) (hρ : ρ x = .func (.func f) fst cap) :
  (execOp ρ ⟨dst,.call { callee := .value x,args := xs,argTypes := ts },ty,pos,after,guard⟩).run P w = .ok (.enter f (fst ++ args ++ cap)) w := by
 obtain ⟨fn,h1,h2,h3⟩ := hf
 exact r_callV h1 h2 h3 hx hρ
end runs2
section
variable {P : Program} {ops : Array Oper} {Q : Exit → Act → World → Prop}
theorem PRF_drop {D : List (List Nat)} {T Fs X Fs' : List Nat} {V : Nat → Value → World → Prop} {n : Nat} {a0 : Act} {w0 : World} {L : List (Nat × Value)} (hA : Ag n a0 L)
  (hchk : ((X.all fun x => Fs.contains x && T.any fun c => Nat.blt c ops.size && (D.getD c []).contains x) && (Fs.all fun i => X.contains i || Fs'.contains i) && (Fs'.all fun i => Fs.contains i)) = true)
  (fin : ∀ a,(∀ L',SubL L L' → keysOk ops Fs L' = true → Ag n a L') → (∀ j,X.contains j = true → ∀ t,(ops[j]?).bind (·.dst) = some t → V j (a.tmps.getD t undef) w0) → PRF P ops Q D (T ++ X) Fs' V a w0) : PRF P ops Q D T Fs V a0 w0 := by
 simp only [Bool.and_eq_true,List.all_eq_true,List.any_eq_true,Bool.or_eq_true,List.contains_iff_mem,Nat.blt_eq] at hchk
 obtain ⟨⟨h1,h2⟩,h3⟩ := hchk
 intro fuel listed a hM hcount
 have hlX : ∀ x ∈ X,listed.getD x false = true := fun x hx => by
  obtain ⟨_,c,hc,hlt,hm⟩ := h1 x hx
  exact hM.closed c (hM.old c hc hlt) x hm
 refine fin a (fun L' hsub hk => same_ag hA (by rw [hM.tsize,hA.size]) (by rw [hM.defers,hA.defs]) hM.same L' hsub hk) (fun j hj t ht => ?_) fuel listed a ⟨hM.size,fun i hi => ?_,fun i hi hlt => ?_,hM.closed,Chg.refl _ _,rfl,rfl,fun _ _ => rfl,fun i hi hli t ht => hM.vals i (h3 i hi) hli t ht⟩ hcount
 ·have hj' : j ∈ X := by simpa using hj
  exact hM.vals j (h1 j hj').1 (hlX j hj') t ht
 ·rcases hM.only i hi with h | h
  ·exact .inl (List.mem_append.2 (.inl h))
  ·rcases h2 i h with h | h
   ·exact .inl (List.mem_append.2 (.inr h))
   ·exact .inr h
 ·rcases List.mem_append.1 hi with h | h
  ·exact hM.old i h hlt
  ·exact hlX i h
end
section
variable {P : Program} {ρ : Operand → Value} {w : World} {dst : Option Nat} {ty : TypeId} {pos : String} {after : Array Edge} {guard : Option (Nat × Bool)}
theorem r_slnil {t yt e : TypeId} {x y : Operand} {s : Sl} (hx : ρ x = s.v) (hy : ρ y = .slice none 0 0) (hu : P.underlying t = some (.slice e)) : (execOp ρ ⟨dst,.binOp .eql t x y yt,ty,pos,after,guard⟩).run P w = .ok (.value (.bool s.a.isNone)) w := by
 have h := Lib.run_eql_slice_nil (P := P) w t e s.a s.n s.c 0 0 hu
 simp only [execOp,hx,hy,Sl.v]
 simp [eqGuard,h,Result.andThen]
theorem r_slnnil {t yt e : TypeId} {x y : Operand} {s : Sl} (hx : ρ x = s.v) (hy : ρ y = .slice none 0 0) (hu : P.underlying t = some (.slice e)) : (execOp ρ ⟨dst,.binOp .neq t x y yt,ty,pos,after,guard⟩).run P w = .ok (.value (.bool (!s.a.isNone))) w := by
 have h := run_neq_slice_nil_any (P := P) w t e s.a s.n s.c 0 0 hu
 simp only [execOp,hx,hy,Sl.v]
 simp [eqGuard,h,Result.andThen]
theorem r_pnil {t yt : TypeId} {x y : Operand} {o : Option Addr} (hx : ρ x = .pointer o) (hy : ρ y = .pointer none) (hu : P.underlying t = some (.pointer (P.pointee t))) : (execOp ρ ⟨dst,.binOp .eql t x y yt,ty,pos,after,guard⟩).run P w = .ok (.value (.bool o.isNone)) w := by
 have h := run_eql_pointer_nil (P := P) w t o hu
 simp only [execOp,hx,hy]
 simp [eqGuard,h,Result.andThen]
theorem r_pnnil {t yt : TypeId} {x y : Operand} {o : Option Addr} (hx : ρ x = .pointer o) (hy : ρ y = .pointer none) (hu : P.underlying t = some (.pointer (P.pointee t))) : (execOp ρ ⟨dst,.binOp .neq t x y yt,ty,pos,after,guard⟩).run P w = .ok (.value (.bool (!o.isNone))) w := by
 have h := run_neq_pointer_nil (P := P) w t o hu
 simp only [execOp,hx,hy]
 simp [eqGuard,h,Result.andThen]
end
section
variable {P : Program} {ρ : Operand → Value} {w : World} {dst : Option Nat} {ty : TypeId} {pos : String} {after : Array Edge} {guard : Option (Nat × Bool)}
theorem r_buildSlice0 {t e : TypeId} {ze : Value} {esize ebytes : Nat} (hu : P.underlying t = some (.slice e)) (he : TI P e ze esize ebytes) :
  (execOp ρ ⟨dst,.buildSlice t 0 #[],ty,pos,after,guard⟩).run P w = .ok (.value (.slice (some ⟨w.heap.size,0,none⟩) 0 0)) (w.alloc (.cells ([] : List Value).toArray e (0,0))) := by
 have h1 : ¬ 0 * esize > 2 ^ 24 := by omega
 have h2 : 0 * esize = 0 := by omega
 simp only [execOp,Instr.buildSlice,Sem.run_bind,run_underlying hu,Result.andThen_ok,he.sizeOf w,if_neg h1,if_pos h2,Sem.run_pure]
 have e0 : ∀ f : Nat → Value,(Array.range 0).map f = #[] := fun f => by
  apply Array.ext <;> simp
 simp [Instr.fill,newRow,newObj]
 rw [e0]
 rfl
end
section
variable {P : Program} {ops : Array Oper} {Q : Exit → Act → World → Prop} {n : Nat} {L : List (Nat × Value)}
end
def RunN (P : Program) (m : Sem Value) (w : World) (bx : List Nat) (K : World → Prop) : Prop :=
 ∃ w',m.run P w = .ok (.tuple #[]) w' ∧ NoTouch bx w w' ∧ w.heap.size ≤ w'.heap.size ∧ K w'
section
variable {P : Program} {ops : Array Oper} {Q : Exit → Act → World → Prop} {K : Act → World → Prop} {n : Nat} {a : Act} {w : World} {L : List (Nat × Value)}
theorem opk_runN {op : Op} {ty : TypeId} {pos : String} {after : Array Edge} {m : Sem Value} {bx : List Nat} {R : World → Prop} (hA : Ag n a L)
  (hrun : ∀ w',m.run P w = .ok (.tuple #[]) w' → (execOp a.eval ⟨none,op,ty,pos,after,none⟩).run P w = .ok (.value (.tuple #[])) w') (hk : RunN P m w bx R)
  (k : ∀ a' w',Ag n a' L → NoTouch bx w w' → w.heap.size ≤ w'.heap.size → R w' → K a' w') : opK P ops Q ⟨none,op,ty,pos,after,none⟩ K a w := by
 obtain ⟨w',h1,h2,h3,h4⟩ := hk
 unfold opK
 simp only [Region.wanted,if_true,Oper.wp,hrun w' h1,Oper.upon]
 exact k _ _ hA h2 h3 h4
end
section
variable {P : Program} {ρ : Operand → Value} {w : World} {dst : Option Nat} {ty : TypeId} {pos : String} {after : Array Edge} {guard : Option (Nat × Bool)}
theorem r_clear {t : TypeId} {x : Operand} {v1 : Value} {w' : World} (hx : ρ x = v1) (hr : (Builtin.clear_ #[t] ty #[v1]).run P w = .ok (.tuple #[]) w') :
  (execOp ρ ⟨dst,.call { callee := .builtin .clear,args := #[x],argTypes := #[t] },ty,pos,after,guard⟩).run P w = .ok (.value (.tuple #[])) w' := by
 simp only [execOp,resolve,invoke,builtin,Sem.run_bind,Sem.run_pure,Result.andThen_ok,List.map_toArray,List.map_cons,List.map_nil,hx,hr]
end
end
section
open Go.RowKit
def YA (P : Program) (ops : Array Oper) (o : Oper) (v : Value) (a : Act) (w : World) : Prop :=
 (Region.wanted o (yielded ops a.tmps) = true ∧ (execOp a.eval o).run P w = .ok (.value v) w) ∨ (Region.wanted o (yielded ops a.tmps) = false ∧ v = undef)
def YR (P : Program) (ops : Array Oper) (o : Oper) (T : Value → World → Prop) (a : Act) (w : World) : Prop :=
 (Region.wanted o (yielded ops a.tmps) = false ∧ T undef w) ∨
 (Region.wanted o (yielded ops a.tmps) = true ∧ ((∃ v w',(execOp a.eval o).run P w = .ok (.value v) w' ∧ Ext w w' ∧ T v w') ∨
  ∃ f args,(execOp a.eval o).run P w = .ok (.enter f args) w ∧ Calls P f args w (Ret fun v w' => Ext w w' ∧ T v w')))
theorem YA.opK {P : Program} {ops : Array Oper} {Q : Exit → Act → World → Prop} {K : Act → World → Prop} {o : Oper} {a : Act} {w : World} {v : Value} (h : YA P ops o v a w) (k : K (a.put o.dst v) w) : opK P ops Q o K a w := by
 unfold Proofs.YtenokfdkckhhiaaGreatDoor.opK
 rcases h with ⟨h1,h2⟩ | ⟨h1,rfl⟩
 ·rw [if_pos h1]
  simp only [Oper.wp,h2,Oper.upon]
  exact k
 ·rw [if_neg (by rw [h1]; simp)]
  exact k
theorem YR.opK {P : Program} {ops : Array Oper} {Q : Exit → Act → World → Prop} {o : Oper} {a : Act} {w : World} {T : Value → World → Prop} (h : YR P ops o T a w) :
  opK P ops Q o (fun a' w' => ∃ v,a' = a.put o.dst v ∧ Ext w w' ∧ T v w') a w := by
 unfold Proofs.YtenokfdkckhhiaaGreatDoor.opK
 rcases h with ⟨h1,h2⟩ | ⟨h1,h2⟩
 ·rw [if_neg (by rw [h1]; simp)]
  exact ⟨_,rfl,Chg.refl _ _,h2⟩
 ·rw [if_pos h1]
  rcases h2 with ⟨v,w',h3,h4,h5⟩ | ⟨f,args,h3,h4⟩
  ·simp only [Oper.wp,h3,Oper.upon]
   exact ⟨v,rfl,h4,h5⟩
  ·exact upon_call h3 h4 fun v w' h => ⟨v,rfl,h.1,h.2⟩
theorem YA.one {P : Program} {ops : Array Oper} {o : Oper} {a : Act} {w : World} {u v : Value} (h : YA P ops o u a w) (k : YA P ops o v a w) : u = v := by
 rcases h with ⟨h1,h2⟩ | ⟨h1,rfl⟩ <;> rcases k with ⟨k1,k2⟩ | ⟨k1,rfl⟩
 ·rw [h2] at k2; injection k2 with e; injection e
 ·rw [h1] at k1; cases k1
 ·rw [h1] at k1; cases k1
 ·rfl
structure RS where
 α : Type
 x0 : α
 f : α → Value
 V : α → World → Prop
 st : ∀ x w w',Ext w w' → V x w → V x w'
def RS.T (R : RS) (v : Value) (w : World) : Prop := ∃ x,v = R.f x ∧ R.V x w
def RS.none : RS := ⟨Unit,(),fun _ => undef,fun _ _ => True,fun _ _ _ _ _ => trivial⟩
def rsAt (i : Nat) : List (Nat × RS) → Option RS
 |[] => Option.none
 |(j,R) :: r => bif Nat.beq i j then some R else rsAt i r
def rs (Vs : List (Nat × RS)) (i : Nat) : RS := (rsAt i Vs).getD RS.none
def isR (Vs : List (Nat × RS)) (i : Nat) : Bool := (rsAt i Vs).isSome
def FD (d : List Nat) : List (Nat × (World → Prop)) → World → Prop
 |[],_ => True
 |(j,p) :: r,w => (d.contains j = true → p w) ∧ FD d r w
def FA : List (Nat × (World → Prop)) → World → Prop
 |[],_ => True
 |(_,p) :: r,w => p w ∧ FA r w
def SeqE (P : Program) (ops : Array Oper) (D : List (List Nat)) (Vs : List (Nat × RS)) (e : Nat) (K : Act → World → Prop) : List (Nat × (World → Prop)) → List Oper → Act → World → Prop
 |F,[],a,w => ∀ w',Ext w w' → FA F w' → K a w'
 |F,o :: r,a,w =>
  (isR Vs (e - (r.length + 1)) = false → ∃ v,(∀ w',Ext w w' → FD (D.getD (e - (r.length + 1)) []) F w' → YA P ops o v a w') ∧ SeqE P ops D Vs e K F r (a.put o.dst v) w) ∧
  (isR Vs (e - (r.length + 1)) = true → (∀ w',Ext w w' → FD (D.getD (e - (r.length + 1)) []) F w' → YR P ops o (rs Vs (e - (r.length + 1))).T a w') ∧
   ∀ x : (rs Vs (e - (r.length + 1))).α,SeqE P ops D Vs e K ((e - (r.length + 1),(rs Vs (e - (r.length + 1))).V x) :: F) r (a.put o.dst ((rs Vs (e - (r.length + 1))).f x)) w)
section
variable {P : Program} {ops : Array Oper} {Q : Exit → Act → World → Prop}
def waitsFor (ops : Array Oper) : List (List Nat) :=
 ops.toList.foldl (fun D o => D ++ [o.after.toList.foldl (fun s e => if Region.binds .any e then (e.on :: D.getD e.on []).foldl (fun s x => if s.contains x then s else x :: s) s else s) []]) []
def looksOk (ops : Array Oper) (D : List (List Nat)) (S : List Nat) : Bool :=
 S.all fun i => ((ops[i]?).map fun o => (o.looksAt ops).all fun t => S.all fun j => (ops[j]?).bind (·.dst) != some t || (D.getD i []).contains j).getD false
def noSel (o : Oper) : Bool := match o.op with | .select .. => false | _ => true
def selOk (ops : Array Oper) (S : List Nat) : Bool := S.all fun i => ((ops[i]?).map noSel).getD true
def spanOk (n : Nat) (ops : Array Oper) (k m : Nat) : Bool :=
 let D := waitsFor ops; let T := List.range k; let S := List.range' k m
 backOk ops && certOk ops D && doneOk D T && waitOk ops D T S && dstOk ops S && inOk ops n S && apartOk T S && looksOk ops D S && selOk ops S && decide (k + m ≤ ops.size)
def putAll : List Oper → List Value → Act → Act
 |o :: r,v :: vs,a => putAll r vs (a.put o.dst v)
 |_,_,a => a
theorem putAll_size : ∀ (l : List Oper) (vs : List Value) (a : Act),(putAll l vs a).tmps.size = a.tmps.size
 |[],_,a => rfl
 |_ :: _,[],a => rfl
 |o :: r,v :: vs,a => by
  rw [putAll,putAll_size r vs]
  cases o.dst <;> simp [Act.put]
theorem putAll_defers : ∀ (l : List Oper) (vs : List Value) (a : Act),(putAll l vs a).defers = a.defers
 |[],_,a => rfl
 |_ :: _,[],a => rfl
 |o :: r,v :: vs,a => by
  rw [putAll,putAll_defers r vs]
  cases o.dst <;> rfl
theorem putAll_other {t : Nat} : ∀ (l : List Oper) (vs : List Value) (a : Act),(∀ o ∈ l,o.dst ≠ some t) → (putAll l vs a).tmps.getD t undef = a.tmps.getD t undef
 |[],_,a,_ => rfl
 |_ :: _,[],a,_ => rfl
 |o :: r,v :: vs,a,h => by
  rw [putAll,putAll_other r vs _ fun o ho => h o (List.mem_cons_of_mem _ ho)]
  have h1 := h o (List.mem_cons_self ..)
  cases hd : o.dst with
  |none => rfl
  |some d => exact getD_setIfInBounds_ne _ _ _ _ _ fun e => h1 (by rw [hd,e])
theorem putAll_at {t : Nat} : ∀ (l : List Oper) (vs : List Value) (a : Act) (i : Nat) (o : Oper) (v : Value),l[i]? = some o → vs[i]? = some v → o.dst = some t → t < a.tmps.size → (∀ (j : Nat) (o' : Oper),i < j → l[j]? = some o' → o'.dst ≠ some t) → (putAll l vs a).tmps.getD t undef = v
 |[],_,a,i,o,v,h,_,_,_,_ => by simp at h
 |_ :: _,[],a,i,o,v,_,h,_,_,_ => by simp at h
 |o1 :: r,v1 :: vs,a,0,o,v,h1,h2,h3,h4,h5 => by
  simp at h1 h2
  subst h1; subst h2
  rw [putAll,putAll_other r vs _ fun o' ho => by
   obtain ⟨j,hj,e⟩ := List.getElem_of_mem ho
   exact h5 (j + 1) o' (by omega) (by rw [List.getElem?_cons_succ,List.getElem?_eq_getElem hj,e]),h3]
  exact getD_setIfInBounds_self _ _ _ _ h4
 |o1 :: r,v1 :: vs,a,i + 1,o,v,h1,h2,h3,h4,h5 => by
  rw [putAll]
  refine putAll_at r vs _ i o v (by simpa using h1) (by simpa using h2) h3 ?_ fun j o' hj ho => h5 (j + 1) o' (by omega) (by simpa using ho)
  cases o1.dst <;> simpa [Act.put] using h4
theorem get_of_getD {xs ys : Array Value} {t : Nat} (h : xs.getD t undef = ys.getD t undef) (hs : xs.size = ys.size) : xs[t]? = ys[t]? := by
 by_cases hlt : t < ys.size
 ·have hlt' : t < xs.size := by omega
  simp only [Array.getD,hlt,hlt',dif_pos] at h
  rw [Array.getElem?_eq_getElem hlt,Array.getElem?_eq_getElem hlt']
  exact congrArg some h
 ·have hlt' : ¬ t < xs.size := by omega
  rw [Array.getElem?_eq_none (Nat.le_of_not_lt hlt),Array.getElem?_eq_none (Nat.le_of_not_lt hlt')]
theorem wanted_same {o : Oper} {a a' : Act} (h : ∀ t ∈ o.looksAt ops,a'.tmps.getD t undef = a.tmps.getD t undef) (hs : a'.tmps.size = a.tmps.size) : Region.wanted o (yielded ops a'.tmps) = Region.wanted o (yielded ops a.tmps) := by
 unfold Region.wanted
 cases hg : o.guard with
 |none => rfl
 |some gw =>
  obtain ⟨g,want⟩ := gw
  have hy : yielded ops a'.tmps g = yielded ops a.tmps g := by
   unfold yielded
   cases ht : (ops[g]?).bind (·.dst) with
   |none => rfl
   |some t =>
    have h1 := h t (by simp [Oper.looksAt,hg,ht])
    have h2 : a'.tmps[t]? = a.tmps[t]? := get_of_getD h1 hs
    show (match a'.tmps[t]? with | some (.bool b) => some b | _ => none) = (match a.tmps[t]? with | some (.bool b) => some b | _ => none)
    rw [h2]
  simp only [hy]
theorem exec_same {o : Oper} {a a' : Act} (hs : noSel o = true) (h : ∀ t ∈ o.looksAt ops,a'.tmps.getD t undef = a.tmps.getD t undef) : execOp a'.eval o = execOp a.eval o :=
 execOp_congr o (fun cs b e => by simp [noSel,e] at hs) fun x hx => by
  cases x with
  |tmp t => exact h t (List.mem_append_left _ (List.mem_filterMap.2 ⟨.tmp t,by simpa using hx,rfl⟩))
  |_ => rfl
theorem yr_same {P : Program} {o : Oper} {T : Value → World → Prop} {a a' : Act} {w : World} (hs : noSel o = true) (h : ∀ t ∈ o.looksAt ops,a'.tmps.getD t undef = a.tmps.getD t undef) (hz : a'.tmps.size = a.tmps.size) (k : YR P ops o T a w) : YR P ops o T a' w := by
 unfold YR at k ⊢
 rw [wanted_same h hz,exec_same hs h]
 exact k
theorem ya_same {P : Program} {o : Oper} {v : Value} {a a' : Act} {w : World} (hs : noSel o = true) (h : ∀ t ∈ o.looksAt ops,a'.tmps.getD t undef = a.tmps.getD t undef) (hz : a'.tmps.size = a.tmps.size) (k : YA P ops o v a w) : YA P ops o v a' w := by
 unfold YA at k ⊢
 rw [wanted_same h hz,exec_same hs h]
 exact k
def CD (Vs : List (Nat × RS)) (ρ : (i : Nat) → (rs Vs i).α) (k : Nat) (d : List Nat) (w : World) : Prop := ∀ j,d.contains j = true → k ≤ j → isR Vs j = true → (rs Vs j).V (ρ j) w
def FOk (Vs : List (Nat × RS)) (ρ : (i : Nat) → (rs Vs i).α) (k : Nat) (F : List (Nat × (World → Prop))) : Prop := ∀ p ∈ F,k ≤ p.1 ∧ isR Vs p.1 = true ∧ ∀ w,(rs Vs p.1).V (ρ p.1) w → p.2 w
theorem FD.of {Vs : List (Nat × RS)} {ρ : (i : Nat) → (rs Vs i).α} {k : Nat} {d : List Nat} {w : World} (h : CD Vs ρ k d w) : ∀ {F : List (Nat × (World → Prop))},FOk Vs ρ k F → FD d F w
 |[],_ => trivial
 |(j,p) :: r,hF => by
  obtain ⟨h1,h2,h3⟩ := hF (j,p) (List.mem_cons_self ..)
  exact ⟨fun hj => h3 w (h j hj h1 h2),FD.of h fun q hq => hF q (List.mem_cons_of_mem _ hq)⟩
structure AtE (P : Program) (ops : Array Oper) (D : List (List Nat)) (Vs : List (Nat × RS)) (ρ : (i : Nat) → (rs Vs i).α) (w : World) (k i : Nat) (o : Oper) (v : Value) (b : Act) : Prop where
 ya : isR Vs i = false → ∀ w',Ext w w' → CD Vs ρ k (D.getD i []) w' → YA P ops o v b w'
 eq : isR Vs i = true → v = (rs Vs i).f (ρ i)
 yr : isR Vs i = true → ∀ w',Ext w w' → CD Vs ρ k (D.getD i []) w' → YR P ops o (rs Vs i).T b w'
theorem seqE_vals {k : Nat} {D : List (List Nat)} {Vs : List (Nat × RS)} {e : Nat} {K : Act → World → Prop} (ρ : (i : Nat) → (rs Vs i).α) {w : World} : ∀ (l : List Oper) (F : List (Nat × (World → Prop))) (a : Act),k + l.length ≤ e → FOk Vs ρ k F → (∀ p ∈ F,p.1 < e - l.length) → SeqE P ops D Vs e K F l a w →
  ∃ vs : List Value,vs.length = l.length ∧ (∀ (q : Nat) (o : Oper) (v : Value),l[q]? = some o → vs[q]? = some v → AtE P ops D Vs ρ w k (e - l.length + q) o v (putAll (l.take q) (vs.take q) a)) ∧
   ∀ w',Ext w w' → (∀ j,j < e → isR Vs j = true → (e - l.length ≤ j ∨ ∃ p ∈ F,p.1 = j) → (rs Vs j).V (ρ j) w') → K (putAll l vs a) w'
 |[],F,a,_,hF,hlt,h => ⟨[],rfl,fun q o v h => by simp at h,fun w' hE hV => h w' hE (by
   clear h
   induction F with
   |nil => trivial
   |cons p r ih =>
    have h1 := hF p (List.mem_cons_self ..)
    have h2 : p.1 < e := by have := hlt p (List.mem_cons_self ..); simpa using this
    exact ⟨h1.2.2 w' (hV p.1 h2 h1.2.1 (.inr ⟨p,List.mem_cons_self ..,rfl⟩)),ih (fun q hq => hF q (List.mem_cons_of_mem _ hq)) (fun q hq => hlt q (List.mem_cons_of_mem _ hq)) (fun j h1 h2 h3 => hV j h1 h2 (h3.imp id fun ⟨q,hq,e⟩ => ⟨q,List.mem_cons_of_mem _ hq,e⟩))⟩)⟩
 |o :: r,F,a,hle,hF,hlt,h => by
  have hi : e - (r.length + 1) + 1 = e - r.length := by simp at hle; omega
  simp only [List.length_cons] at hle hlt ⊢
  generalize hid : e - (r.length + 1) = i at *
  unfold SeqE at h
  rw [hid] at h
  cases hR : isR Vs i with
  |false =>
   obtain ⟨v,h1,h2⟩ := h.1 hR
   obtain ⟨vs,e1,e2,e3⟩ := seqE_vals ρ r F _ (by omega) hF (fun p hp => by have := hlt p hp; omega) h2
   refine ⟨v :: vs,by simp [e1],fun q o' v' ho hv => ?_,fun w' hE hV => e3 w' hE fun j h1 h2 h3 => hV j h1 h2 (h3.imp (fun h => by omega) id)⟩
   cases q with
   |zero =>
    simp at ho hv; subst ho; subst hv
    exact ⟨fun _ w' hE hC => h1 w' hE (FD.of hC hF),(fun h => absurd h (by rw [Nat.add_zero,hR]; decide)),(fun h => absurd h (by rw [Nat.add_zero,hR]; decide))⟩
   |succ q =>
    simp only [List.getElem?_cons_succ] at ho hv
    have := e2 q o' v' ho hv
    rw [← hi,Nat.add_assoc,Nat.add_comm 1 q] at this
    simpa [putAll] using this
  |true =>
   obtain ⟨h1,h2⟩ := h.2 hR
   obtain ⟨vs,e1,e2,e3⟩ := seqE_vals (k := k) ρ r ((i,(rs Vs i).V (ρ i)) :: F) _ (by omega) (fun p hp => by
    rcases List.mem_cons.1 hp with rfl | hp
    ·exact ⟨by show k ≤ i; omega,hR,fun _ h => h⟩
    ·exact hF p hp) (fun p hp => by
    rcases List.mem_cons.1 hp with rfl | hp
    ·show i < e - r.length; omega
    ·have := hlt p hp; omega) (h2 (ρ i))
   refine ⟨(rs Vs i).f (ρ i) :: vs,by simp [e1],fun q o' v' ho hv => ?_,fun w' hE hV => e3 w' hE fun j h1 h2 h3 => hV j h1 h2 ?_⟩
   ·cases q with
    |zero =>
     simp at ho hv; subst ho; subst hv
     exact ⟨(fun h => absurd h (by rw [Nat.add_zero,hR]; decide)),fun _ => rfl,fun _ w' hE hC => h1 w' hE (FD.of hC hF)⟩
    |succ q =>
     simp only [List.getElem?_cons_succ] at ho hv
     have := e2 q o' v' ho hv
     rw [← hi,Nat.add_assoc,Nat.add_comm 1 q] at this
     simpa [putAll] using this
   ·rcases h3 with h3 | ⟨p,hp,e⟩
    ·exact .inl (by omega)
    ·rcases List.mem_cons.1 hp with rfl | hp
     ·exact .inl (by simp at e; omega)
     ·exact .inr ⟨p,hp,e⟩
structure MidE (P : Program) (ops : Array Oper) (D : List (List Nat)) (Vs : List (Nat × RS)) (k m : Nat) (vals : ((i : Nat) → (rs Vs i).α) → List Value) (a0 : Act) (w0 : World) (listed : Array Bool) (a : Act) (w : World) : Prop where
 size : listed.size = ops.size
 only : ∀ i,listed.getD i false = true → i < k + m
 old : ∀ i,i < k → i < ops.size → listed.getD i false = true
 closed : ∀ j,listed.getD j false = true → ∀ x ∈ D.getD j [],listed.getD x false = true
 chg : Ext w0 w
 tsize : a.tmps.size = a0.tmps.size
 defers : a.defers = a0.defers
 same : ∀ t,(∀ j,j < m → (ops[k + j]?).bind (·.dst) ≠ some t) → a.tmps.getD t undef = a0.tmps.getD t undef
 vals : ∃ ρ : (i : Nat) → (rs Vs i).α,(∀ j,j < m → listed.getD (k + j) false = true → isR Vs (k + j) = true → (rs Vs (k + j)).V (ρ (k + j)) w) ∧
  ∀ ρ',(∀ j,j < m → listed.getD (k + j) false = true → isR Vs (k + j) = true → ρ' (k + j) = ρ (k + j)) → ∀ j,j < m → listed.getD (k + j) false = true → ∀ t v,(ops[k + j]?).bind (·.dst) = some t → (vals ρ')[j]? = some v → a.tmps.getD t undef = v
theorem PR_walk {Vs : List (Nat × RS)} {n k m : Nat} {L : List (Nat × Value)} {a : Act} {w : World} (hA : Ag n a L) (hchk : spanOk n ops k m = true)
  (h : SeqE P ops (waitsFor ops) Vs (k + m) (fun a w => PR P ops Q (List.range (k + m)) a w) [] ((ops.toList.drop k).take m) a w) : PR P ops Q (List.range k) a w := by
 simp only [spanOk,Bool.and_eq_true,decide_eq_true_eq] at hchk
 obtain ⟨⟨⟨⟨⟨⟨⟨⟨⟨c1,c2⟩,c3⟩,c4⟩,c5⟩,c6⟩,c7⟩,c8⟩,c9⟩,c10⟩ := hchk
 have hll : ((ops.toList.drop k).take m).length = m := by simp; omega
 have hat : ∀ i,i < m → ((ops.toList.drop k).take m)[i]? = ops[k + i]? := fun i hi => by
  rw [List.getElem?_take,if_pos hi,List.getElem?_drop,Array.getElem?_toList]
 generalize hl : (ops.toList.drop k).take m = l at *
 have hvals : ∀ ρ : (i : Nat) → (rs Vs i).α,∃ vs : List Value,vs.length = m ∧ (∀ (q : Nat) (o : Oper) (v : Value),l[q]? = some o → vs[q]? = some v → AtE P ops (waitsFor ops) Vs ρ w k (k + q) o v (putAll (l.take q) (vs.take q) a)) ∧
   ∀ w',Ext w w' → (∀ j,j < m → isR Vs (k + j) = true → (rs Vs (k + j)).V (ρ (k + j)) w') → PR P ops Q (List.range (k + m)) (putAll l vs a) w' := fun ρ => by
  obtain ⟨vs,e1,e2,e3⟩ := seqE_vals (k := k) ρ l [] a (by omega) (fun p hp => by cases hp) (fun p hp => by cases hp) h
  rw [hll] at e1 e2 e3
  rw [show k + m - m = k by omega] at e2 e3
  refine ⟨vs,e1,e2,fun w' hE hV => e3 w' hE fun j h1 h2 h3 => ?_⟩
  rcases h3 with h3 | ⟨p,hp,_⟩
  ·have := hV (j - k) (by omega); rw [show k + (j - k) = j by omega] at this; exact this h2
  ·cases hp
 obtain ⟨vals,hvals⟩ := Classical.axiomOfChoice hvals
 have hmem' : ∀ j,j < m → k + j ∈ List.range' k m := fun j hj => by rw [List.mem_range'_1]; omega
 have hdst : ∀ i j t,i < m → j < m → (ops[k + i]?).bind (·.dst) = some t → (ops[k + j]?).bind (·.dst) = some t → i = j := fun i j t hi hj h1 h2 => by
  simp only [dstOk,List.all_eq_true,Bool.or_eq_true,beq_iff_eq,bne_iff_ne] at c5
  rcases c5 _ (hmem' i hi) _ (hmem' j hj) with (h' | h') | h'
  ·omega
  ·rw [h1] at h'; cases h'
  ·exact absurd (by rw [h1,h2]) h'
 have hlt : ∀ i t,i < m → (ops[k + i]?).bind (·.dst) = some t → t < n := fun i t hi h1 => by
  simp only [inOk,List.all_eq_true,Bool.and_eq_true] at c6
  have := (c6 _ (hmem' i hi)).2
  rw [h1] at this
  simpa using this
 -- the frame once those up to i have come
 have hval : ∀ (vs : List Value) i,i ≤ m → ∀ j o v t,j < i → l[j]? = some o → vs[j]? = some v → o.dst = some t → (putAll (l.take i) (vs.take i) a).tmps.getD t undef = v := fun vs i hi j o v t hj ho hv ht => by
  have hoj : (ops[k + j]?).bind (·.dst) = some t := by rw [← hat j (by omega),ho]; exact ht
  refine putAll_at _ _ _ j o v (by rw [List.getElem?_take,if_pos hj]; exact ho) (by rw [List.getElem?_take,if_pos hj]; exact hv) ht (by rw [hA.size]; exact hlt j t (by omega) hoj) fun j' o' hjj ho' hd => ?_
  rw [List.getElem?_take] at ho'
  split at ho'
  ·have := hdst j j' t (by omega) (by omega) hoj (by rw [← hat j' (by omega),ho']; exact hd)
   omega
  ·cases ho'
 have hoth : ∀ (vs : List Value) i t,(∀ j,j < m → (ops[k + j]?).bind (·.dst) ≠ some t) → (putAll (l.take i) (vs.take i) a).tmps.getD t undef = a.tmps.getD t undef := fun vs i t h1 =>
  putAll_other _ _ _ fun o ho hd => by
   obtain ⟨j,hj,e⟩ := List.getElem_of_mem (List.mem_of_mem_take ho)
   rw [hll] at hj
   exact h1 j hj (by rw [← hat j hj,List.getElem?_eq_getElem (by omega),e]; exact hd)
 have hfin : ∀ listed a' w',MidE P ops (waitsFor ops) Vs k m vals a w listed a' w' → (∀ j,j < m → listed.getD (k + j) false = true) → PR P ops Q (List.range (k + m)) a' w' := by
  intro listed a' w' hM hall
  obtain ⟨ρ,hV,hval'⟩ := hM.vals
  obtain ⟨e1,e2,e3⟩ := hvals ρ
  have := e3 w' hM.chg fun j hj hR => hV j hj (hall j hj) hR
  have e : a' = putAll l (vals ρ) a := by
   have hl1 : l = l.take m := by rw [List.take_of_length_le (by omega)]
   have hv1 : vals ρ = (vals ρ).take m := by rw [List.take_of_length_le (by omega)]
   have ht : a'.tmps = (putAll l (vals ρ) a).tmps := by
    refine Array.ext (by rw [putAll_size,hM.tsize]) fun t h1 h2 => ?_
    have key : a'.tmps.getD t undef = (putAll l (vals ρ) a).tmps.getD t undef := by
     by_cases hex : ∃ q,q < m ∧ (ops[k + q]?).bind (·.dst) = some t
     ·obtain ⟨q,hq,hqt⟩ := hex
      obtain ⟨oq,hoq⟩ : ∃ oq,l[q]? = some oq := ⟨_,List.getElem?_eq_getElem (by omega)⟩
      obtain ⟨vq,hvq⟩ : ∃ vq,(vals ρ)[q]? = some vq := ⟨_,List.getElem?_eq_getElem (by omega)⟩
      rw [hval' ρ (fun _ _ _ _ => rfl) q hq (hall q hq) t vq hqt hvq,hl1,hv1]
      exact (hval _ m (Nat.le_refl _) q oq _ t hq hoq hvq (by rw [← hat q hq,hoq] at hqt; exact hqt)).symm
     ·have hne : ∀ q,q < m → (ops[k + q]?).bind (·.dst) ≠ some t := fun q hq h1 => hex ⟨q,hq,h1⟩
      rw [hl1,hv1,hoth _ m t hne]
      exact hM.same t hne
    simpa [Array.getD,h1,h2] using key
   have hd : a'.defers = (putAll l (vals ρ) a).defers := by rw [putAll_defers,hM.defers]
   cases a'; cases hpa : putAll l (vals ρ) a
   rw [hpa] at ht hd
   simp only at ht hd
   rw [ht,hd]
  rw [e]; exact this
 have key : ∀ fuel listed a' w',MidE P ops (waitsFor ops) Vs k m vals a w listed a' w' → listed.toList.count false ≤ fuel → wpAny P .any ops Q fuel listed a' w' := by
  intro fuel
  induction fuel with
  |zero =>
   intro listed a' w' hM hcount
   have hall : ∀ i,i < ops.size → listed.getD i false = true := by
    intro i hi
    have h0 : listed.toList.count false = 0 := by omega
    have hn := List.count_eq_zero.1 h0
    have hsz : i < listed.size := by rw [hM.size]; exact hi
    cases hv : listed[i] with
    |true => simp [Array.getD,hsz,hv]
    |false => exact absurd (by rw [← hv]; exact Array.mem_toList_iff.2 (Array.getElem_mem hsz)) hn
   refine hfin listed a' w' hM (fun j hj => hall _ (by omega)) 0 listed hM.size (fun i hi => ?_) hcount
   rw [List.mem_range]
   exact ⟨fun h => hM.only i h,fun _ => hall i hi⟩
  |succ fuel ih =>
   intro listed a' w' hM hcount
   by_cases hall : ∀ j,j < m → listed.getD (k + j) false = true
   ·refine hfin listed a' w' hM hall (fuel + 1) listed hM.size (fun i hi => ?_) hcount
    rw [List.mem_range]
    refine ⟨fun h => hM.only i h,fun h => ?_⟩
    rcases Nat.lt_or_ge i k with h' | h'
    ·exact hM.old i h' hi
    ·have := hall (i - k) (by omega); rwa [show k + (i - k) = i by omega] at this
   ·have ⟨j0,hj0⟩ := Classical.not_forall.1 hall
    have ⟨hj0m,hj0l⟩ := Classical.not_imp.1 hj0
    have hj0l' : listed.getD (k + j0) false = false := by simpa using hj0l
    have hrs := ready_some c1 hM.size (k + j0) (by omega) hj0l'
    refine ⟨fun h => absurd h hrs,fun i hi => ?_⟩
    have hcl := cert_listed c2 hM.closed hi
    obtain ⟨h1,o,ho,h2⟩ := mem_ready.1 hi
    have hlti : i < ops.size := (Array.getElem?_eq_some_iff.1 ho).1
    have hil : listed.getD i false = false := by simp [Array.getD,hM.size,hlti] at h1 ⊢; exact h1
    have hik : k ≤ i ∧ i < k + m := by
     simp only [waitOk,List.all_eq_true,List.mem_range,Bool.or_eq_true,List.contains_iff_mem] at c4
     rcases c4 i hlti with (hT | hS) | hall'
     ·rw [hM.old i hT hlti] at hil; cases hil
     ·rw [List.mem_range'_1] at hS; omega
     ·have := hcl _ (hall' _ (hmem' j0 hj0m))
      rw [hj0l'] at this; cases this
    obtain ⟨j,rfl⟩ : ∃ j,i = k + j := ⟨i - k,by omega⟩
    have hjm : j < m := by omega
    have hoj : l[j]? = some o := by rw [hat j hjm]; exact ho
    have hdsti : (ops[k + j]?).bind (·.dst) = o.dst := by rw [ho]; rfl
    have hns : noSel o = true := by
     simp only [selOk,List.all_eq_true] at c9
     have := c9 _ (hmem' j hjm)
     rw [ho] at this
     simpa using this
    have hils : k + j < listed.size := by rw [hM.size]; exact hlti
    obtain ⟨ρ,hV,hval'⟩ := hM.vals
    -- the frame,as far as the operation looks
    have hlook : ∀ ρ',(∀ j,j < m → listed.getD (k + j) false = true → isR Vs (k + j) = true → ρ' (k + j) = ρ (k + j)) → ∀ t ∈ o.looksAt ops,a'.tmps.getD t undef = (putAll (l.take j) ((vals ρ').take j) a).tmps.getD t undef := fun ρ' hρ t ht => by
     by_cases hex : ∃ q,q < m ∧ (ops[k + q]?).bind (·.dst) = some t
     ·obtain ⟨q,hq,hqt⟩ := hex
      simp only [looksOk,List.all_eq_true] at c8
      have h8 := c8 _ (hmem' j hjm)
      rw [ho] at h8
      simp only [Option.map_some,Option.getD_some,List.all_eq_true,Bool.or_eq_true,bne_iff_ne,List.contains_iff_mem] at h8
      have hD : k + q ∈ (waitsFor ops).getD (k + j) [] := (h8 t ht _ (hmem' q hq)).resolve_left (fun h => h hqt)
      have hqj : q < j := by
       simp only [certOk,List.all_eq_true,List.mem_range,Bool.and_eq_true,decide_eq_true_eq] at c2
       have := (c2 (k + j) (by omega) _ hD).1
       omega
      obtain ⟨oq,hoq⟩ : ∃ oq,l[q]? = some oq := ⟨_,List.getElem?_eq_getElem (by omega)⟩
      obtain ⟨vq,hvq⟩ : ∃ vq,(vals ρ')[q]? = some vq := ⟨_,List.getElem?_eq_getElem (by have := (hvals ρ').1; omega)⟩
      rw [hval' ρ' hρ q hq (hcl _ hD) t vq hqt hvq]
      exact (hval _ j (by omega) q oq _ t hqj hoq hvq (by rw [← hat q hq,hoq] at hqt; exact hqt)).symm
     ·have hne : ∀ q,q < m → (ops[k + q]?).bind (·.dst) ≠ some t := fun q hq h1 => hex ⟨q,hq,h1⟩
      rw [hoth _ j t hne]
      exact hM.same t hne
    have hsz : ∀ ρ',a'.tmps.size = (putAll (l.take j) ((vals ρ').take j) a).tmps.size := fun ρ' => by rw [putAll_size,hM.tsize]
    have hV' : ∀ ρ',(∀ j,j < m → listed.getD (k + j) false = true → isR Vs (k + j) = true → ρ' (k + j) = ρ (k + j)) → CD Vs ρ' k ((waitsFor ops).getD (k + j) []) w' := fun ρ' hρ j' hj' hk hR => by
     have hl' := hcl j' (by simpa using hj')
     have hjlt := hM.only j' hl'
     have h1 := hV (j' - k) (by omega)
     have h2 := hρ (j' - k) (by omega)
     rw [show k + (j' - k) = j' by omega] at h1 h2
     rw [h2 hl' hR]; exact h1 hl' hR
    have step : ∀ v w'',Ext w' w'' → (∃ ρ'' : (i : Nat) → (rs Vs i).α,(∀ j',j' < m → (listed.setIfInBounds (k + j) true).getD (k + j') false = true → isR Vs (k + j') = true → (rs Vs (k + j')).V (ρ'' (k + j')) w'') ∧
      (∀ j',j' < m → listed.getD (k + j') false = true → isR Vs (k + j') = true → ρ'' (k + j') = ρ (k + j')) ∧
      ∀ ρ',(∀ j',j' < m → (listed.setIfInBounds (k + j) true).getD (k + j') false = true → isR Vs (k + j') = true → ρ' (k + j') = ρ'' (k + j')) → ∀ v',(vals ρ')[j]? = some v' → v = v') →
      wpAny P .any ops Q fuel (listed.setIfInBounds (k + j) true) (a'.put o.dst v) w'' := by
     rintro v w'' hE ⟨ρ'',g1,g2,g3⟩
     refine ih _ _ w'' ?_ (by have := count_set listed (k + j) hils h1; omega)
     refine ⟨by simp [hM.size],fun i hi => ?_,fun i hi hil => ?_,fun i hi x hx => ?_,hM.chg.trans hE,?_,?_,fun t ht => ?_,ρ'',g1,fun ρ' hρ j' hj' hl' t v' ht hv' => ?_⟩
     ·rw [getD_set _ _ _ hils] at hi
      split at hi
      ·omega
      ·exact hM.only i hi
     ·rw [getD_set _ _ _ hils]
      split
      ·rfl
      ·exact hM.old i hi hil
     ·rw [getD_set _ _ _ hils] at hi ⊢
      split
      ·rfl
      ·split at hi
       ·rename_i e; subst e; exact hcl x hx
       ·exact hM.closed i hi x hx
     ·cases hd' : o.dst <;> simp [Act.put,hM.tsize]
     ·cases hd' : o.dst <;> simp [Act.put,hM.defers]
     ·have hne : o.dst ≠ some t := by rw [← hdsti]; exact ht j hjm
      rw [← hM.same t ht]
      cases hd' : o.dst with
      |none => rfl
      |some d => exact getD_setIfInBounds_ne _ _ _ _ _ (fun e => hne (by rw [hd',e]))
     ·by_cases e : j' = j
      ·subst e
       rw [hdsti] at ht
       rw [ht]
       show (a'.tmps.setIfInBounds t v).getD t undef = v'
       rw [getD_setIfInBounds_self _ _ _ _ (by rw [hM.tsize,hA.size]; exact hlt j' t hjm (by rw [hdsti]; exact ht))]
       exact g3 ρ' hρ v' hv'
      ·have hlo : listed.getD (k + j') false = true := by
        rw [getD_set _ _ _ hils,if_neg (by omega)] at hl'; exact hl'
       have hne : o.dst ≠ some t := fun h => e (hdst j' j t hj' hjm ht (by rw [hdsti]; exact h))
       have key := hval' ρ' (fun j'' hj'' hl'' hR => by
        rw [hρ j'' hj'' (by rw [getD_set _ _ _ hils]; split <;> first | rfl | exact hl'') hR,g2 j'' hj'' hl'' hR]) j' hj' hlo t v' ht hv'
       rw [← key]
       cases hd' : o.dst with
       |none => rfl
       |some d => exact getD_setIfInBounds_ne _ _ _ _ _ (fun e' => hne (by rw [hd',e']))
    have lo : ∀ j',listed.getD (k + j') false = true → (listed.setIfInBounds (k + j) true).getD (k + j') false = true := fun j' h => by
     rw [getD_set _ _ _ hils]; split <;> first | rfl | exact h
    obtain ⟨v0,hv0⟩ : ∃ v,(vals ρ)[j]? = some v := ⟨_,List.getElem?_eq_getElem (by have := (hvals ρ).1; omega)⟩
    have hAt := (hvals ρ).2.1 j o v0 hoj hv0
    cases hR : isR Vs (k + j) with
    |false =>
     have ya := ya_same hns (hlook ρ fun _ _ _ _ => rfl) (hsz ρ) (hAt.ya hR w' hM.chg (hV' ρ fun _ _ _ _ => rfl))
     have un : ∀ j',(listed.setIfInBounds (k + j) true).getD (k + j') false = true → isR Vs (k + j') = true → listed.getD (k + j') false = true := fun j' h hr => by
      rw [getD_set _ _ _ hils] at h
      split at h
      ·rename_i e; rw [e,hR] at hr; cases hr
      ·exact h
     refine wpOp_of_opK ho (ya.opK (step v0 w' (Chg.refl _ _) ⟨ρ,fun j' hj' hl' hr => hV j' hj' (un j' hl' hr) hr,fun _ _ _ _ => rfl,fun ρ' hρ v' hv' => ?_⟩))
     have hρ' : ∀ j',j' < m → listed.getD (k + j') false = true → isR Vs (k + j') = true → ρ' (k + j') = ρ (k + j') := fun j' hj' hl' hr => hρ j' hj' (lo j' hl') hr
     exact ya.one (ya_same hns (hlook ρ' hρ') (hsz ρ') (((hvals ρ').2.1 j o v' hoj hv').ya hR w' hM.chg (hV' ρ' hρ')))
    |true =>
     have yr := yr_same hns (hlook ρ fun _ _ _ _ => rfl) (hsz ρ) (hAt.yr hR w' hM.chg (hV' ρ fun _ _ _ _ => rfl))
     refine wpOp_of_opK ho (opK_mono yr.opK fun a'' w'' ⟨v,e,hE,x,hx,hVx⟩ => ?_)
     subst e
     refine step v w'' hE ⟨fun i => if h : i = k + j then h ▸ x else ρ i,fun j' hj' hl' hr => ?_,fun j' hj' hl' hr => ?_,fun ρ' hρ v' hv' => ?_⟩
     ·by_cases e : j' = j
      ·subst e; simp only [dif_pos]; exact hVx
      ·show (rs Vs (k + j')).V (if h : k + j' = k + j then h ▸ x else ρ (k + j')) w''
       rw [dif_neg (by omega)]
       rw [getD_set _ _ _ hils,if_neg (by omega)] at hl'
       exact (rs Vs (k + j')).st _ _ _ hE (hV j' hj' hl' hr)
     ·have e : j' ≠ j := fun e => by subst e; rw [hil] at hl'; cases hl'
      show (if h : k + j' = k + j then h ▸ x else ρ (k + j')) = ρ (k + j')
      rw [dif_neg (by omega)]
     ·have h1 := hρ j hjm (by rw [getD_set _ _ _ hils,if_pos rfl]) hR
      simp only [dif_pos] at h1
      rw [((hvals ρ').2.1 j o v' hoj hv').eq hR,h1,hx]
 intro fuel listed hs hl hcount
 refine key fuel listed a w ⟨hs,fun i hi => ?_,fun i hi hlt => (hl i hlt).2 (List.mem_range.2 hi),fun j hj x hx => ?_,Chg.refl _ _,rfl,rfl,fun _ _ => rfl,fun i => (rs Vs i).x0,fun j hj hjl _ => ?_,fun ρ' _ j hj hjl => ?_⟩ hcount
 ·have hlt : i < ops.size := by
   rcases Nat.lt_or_ge i ops.size with h | h
   ·exact h
   ·simp [Array.getD,hs,Nat.not_lt.2 h] at hi
  have := List.mem_range.1 ((hl i hlt).1 hi)
  omega
 ·have hlt : j < ops.size := by
   rcases Nat.lt_or_ge j ops.size with h | h
   ·exact h
   ·simp [Array.getD,hs,Nat.not_lt.2 h] at hj
  have hjT := (hl j hlt).1 hj
  simp only [doneOk,List.all_eq_true,List.contains_iff_mem] at c3
  have hxT := c3 j hjT x hx
  have hxlt : x < ops.size := by
   simp only [certOk,List.all_eq_true,List.mem_range,Bool.and_eq_true,decide_eq_true_eq] at c2
   have := (c2 j hlt x hx).1
   omega
  exact (hl x hxlt).2 hxT
 ·have := List.mem_range.1 ((hl (k + j) (by omega)).1 hjl); omega
 ·have := List.mem_range.1 ((hl (k + j) (by omega)).1 hjl); omega
end
end
end Go.Proofs.YtenokfdkckhhiaaGreatDoor
