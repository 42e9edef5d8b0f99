/-
  Walks in which all that is known stands in the goal: the rules. Walks in which all that is known stands in the goal: what is made, written, called; ways that meet; loops; a call's end.
-/
import Derived.Test.YtenokfdkckhhiaaGreatDoorQBuildNests0
namespace Go.Proofs.YtenokfdkckhhiaaGreatDoor
section
open Go.RowKit
abbrev BX := Nat × TypeId × List Value
structure St (n : Nat) (a : Act) (w : World) (L : List (Nat × Value)) (wa : World) (G : List Nat) (bs : List BX) (N : List Nat) : Prop where
 ag : Ag n a L
 chg : Chg G wa w
 box : ∀ b ∈ bs,Box w b.1 b.2.1 b.2.2
 nd : (bs.map (·.1)).Nodup
 new : ∀ B ∈ N,New wa B w
 nnd : N.Nodup
def Go (n : Nat) (L : List (Nat × Value)) (wa w : World) (G : List Nat) (bs : List BX) (N : List Nat) (V : Prop) (C : Act → World → Prop) : Prop :=
 ∀ a,St n a w L wa G bs N → V → C a w
class Stp (P : outParam Program) (ops : outParam (Array Oper)) (X : List Oper → Act → World → Prop) where
 ok : List Oper → Bool
 stp : ∀ {o : Oper} {r : List Oper} {a : Act} {w : World} {v : Value},ok r = true → (∀ w',Ext w w' → YA P ops o v a w') → X r (a.put o.dst v) w → X (o :: r) a w
class Eff (P : outParam Program) (ops : outParam (Array Oper)) (Q : outParam (Exit → Act → World → Prop)) (X : List Oper → Act → World → Prop) : Prop where
 eff : ∀ {o : Oper} {r : List Oper} {a : Act} {w : World},opK P ops Q o (X r) a w → X (o :: r) a w
def OL (P : Program) (ops : Array Oper) (Q : Exit → Act → World → Prop) (K : Act → World → Prop) : List Oper → Act → World → Prop
 |[],a,w => K a w
 |o :: r,a,w => opK P ops Q o (OL P ops Q K r) a w
instance {P : Program} {ops : Array Oper} {Q : Exit → Act → World → Prop} : Stp P ops (wpList P ops Q) := ⟨fun _ => true,fun _ h k => sq ((h _ (Chg.refl _ _)).opK k)⟩
instance {P : Program} {ops : Array Oper} {Q : Exit → Act → World → Prop} {K : Act → World → Prop} : Stp P ops (OL P ops Q K) := ⟨fun _ => true,fun _ h k => (h _ (Chg.refl _ _)).opK (Q := Q) k⟩
instance {P : Program} {ops : Array Oper} {D : List (List Nat)} {Vs : List (Nat × RS)} {e : Nat} {K : Act → World → Prop} {F : List (Nat × (World → Prop))} : Stp P ops (SeqE P ops D Vs e K F) :=
 ⟨fun r => !isR Vs (e - (r.length + 1)),fun {o r a w v} hk h k => ⟨fun _ => ⟨v,fun w' hE _ => h w' hE,k⟩,fun hR => by rw [hR] at hk; cases hk⟩⟩
instance {P : Program} {ops : Array Oper} {Q : Exit → Act → World → Prop} : Eff P ops Q (wpList P ops Q) := ⟨fun h => sq h⟩
instance {P : Program} {ops : Array Oper} {Q : Exit → Act → World → Prop} {K : Act → World → Prop} : Eff P ops Q (OL P ops Q K) := ⟨fun h => h⟩
def opv (L : List (Nat × Value)) : Operand → Option Value
 |.tmp t => lookupL t L
 |.const v => some v
 |.global g => some (.pointer (some ⟨g,0,none⟩))
 |.func f => some (.func (.func f) #[] #[])
theorem Ag.opv {n : Nat} {a : Act} {L : List (Nat × Value)} (h : Ag n a L) {x : Operand} {v : Value} (hx : Proofs.YtenokfdkckhhiaaGreatDoor.opv L x = some v) : a.eval x = v := by
 cases x with
 |tmp t => exact h.get hx
 |const u => exact Option.some.inj hx
 |global g => exact Option.some.inj hx
 |func f => exact Option.some.inj hx
class GI (c g : Bool) : Prop where
 h : c = true → g = true
instance {c : Bool} : GI c c := ⟨id⟩
instance {c g h : Bool} [i : GI c g] : GI (c && h) g := ⟨fun e => i.h (Bool.and_eq_true_iff.1 e).1⟩
def OG (L : List (Nat × Value)) (x : Operand) (c : Bool) (v : Value) : Prop := c = true → ∀ n a,Ag n a L → a.eval x = v
theorem OG.pl {L : List (Nat × Value)} {x : Operand} {c : Bool} {v : Value} (h : opv L x = some v) : OG L x c v := fun _ _ _ hA => hA.opv h
theorem OG.cv {L : List (Nat × Value)} {x : Operand} {c g : Bool} {v : Value} (h : opv L x = some (cV g v)) [i : GI c g] : OG L x c v := fun hc _ _ hA => (hA.opv h).trans (by rw [i.h hc,cV_true])
def GU (L : List (Nat × Value)) (t : Nat) (g e : Bool) : Prop := lookupL t L = some (cV g (.bool e))
theorem GU.pl {L : List (Nat × Value)} {t : Nat} {e : Bool} (h : lookupL t L = some (.bool e)) : GU L t true e := h
theorem GU.cv {L : List (Nat × Value)} {t : Nat} {g e : Bool} (h : lookupL t L = some (cV g (.bool e))) : GU L t g e := h
inductive OVs (L : List (Nat × Value)) : List Operand → List Value → Prop
 |nil : OVs L [] []
 |cons {x : Operand} {v : Value} {xs : List Operand} {vs : List Value} (t : OVs L xs vs) (h : opv L x = some v := by rfl) : OVs L (x :: xs) (v :: vs)
theorem OVs.map {n : Nat} {a : Act} {L : List (Nat × Value)} {xs : List Operand} {vs : List Value} (hA : Ag n a L) (h : OVs L xs vs) : xs.toArray.map a.eval = vs.toArray := by
 refine map_arr ?_
 induction h with
 |nil => exact .nil
 |cons _ h ih => exact .cons (hA.opv h) ih
inductive OGs (L : List (Nat × Value)) (c : Bool) : List Operand → List Value → Prop
 |nil : OGs L c [] []
 |cons {x : Operand} {v : Value} {xs : List Operand} {vs : List Value} (t : OGs L c xs vs) (h : OG L x c v := by first | exact OG.cv rfl | exact OG.pl rfl) : OGs L c (x :: xs) (v :: vs)
theorem OGs.map {n : Nat} {a : Act} {L : List (Nat × Value)} {c : Bool} {xs : List Operand} {vs : List Value} (hA : Ag n a L) (hc : c = true) (h : OGs L c xs vs) : xs.toArray.map a.eval = vs.toArray := by
 refine map_arr ?_
 induction h with
 |nil => exact .nil
 |cons _ h ih => exact .cons (h hc _ _ hA) ih
inductive OPs (L : List (Nat × Value)) (c : Bool) : List (Nat × Operand) → List (Nat × Value) → Prop
 |nil : OPs L c [] []
 |cons {i : Nat} {x : Operand} {v : Value} {xs : List (Nat × Operand)} {vs : List (Nat × Value)} (t : OPs L c xs vs) (h : OG L x c v := by first | exact OG.cv rfl | exact OG.pl rfl) : OPs L c ((i,x) :: xs) ((i,v) :: vs)
theorem OPs.map {n : Nat} {a : Act} {L : List (Nat × Value)} {c : Bool} {xs : List (Nat × Operand)} {vs : List (Nat × Value)} (hA : Ag n a L) (hc : c = true) (h : OPs L c xs vs) : (xs.toArray.map fun (i,x) => (i,a.eval x)) = vs.toArray := by
 refine map_arr2 ?_
 induction h with
 |nil => exact .nil
 |cons _ h ih => exact .cons (h hc _ _ hA) ih
section
variable {P : Program} {ops : Array Oper} {Q : Exit → Act → World → Prop} {X : List Oper → Act → World → Prop} {K C : Act → World → Prop} {n : Nat} {a : Act} {w wa : World} {L : List (Nat × Value)} {G N : List Nat} {bs : List BX} {V : Prop} {r : List Oper}
theorem St.bx (h : St n a w L wa G bs N) (i : Nat) {B : Nat} {T : TypeId} {cs : List Value} (hb : bs[i]? = some (B,T,cs)) : Box w B T cs := h.box _ (List.mem_of_getElem? hb)
theorem St.put {d : Nat} {v : Value} (h : St n a w L wa G bs N) (hd : Nat.blt d n = true) : St n (a.put (some d) v) w ((d,v) :: L) wa G bs N := ⟨h.ag.put hd v,h.chg,h.box,h.nd,h.new,h.nnd⟩
theorem St.act {a' : Act} {L' : List (Nat × Value)} (h : St n a w L wa G bs N) (hA : Ag n a' L') : St n a' w L' wa G bs N := ⟨hA,h.chg,h.box,h.nd,h.new,h.nnd⟩
theorem St.ext {w' : World} (h : St n a w L wa G bs N) (hE : Ext w w') : St n a w' L wa G bs N :=
 ⟨h.ag,h.chg.more hE,fun b hb => (h.box b hb).ext hE,h.nd,fun B hB => (h.new B hB).up hE.size,h.nnd⟩
theorem St.cons {w' : World} {B : Nat} {T : TypeId} {cs : List Value} (h : St n a w L wa G bs N) (hE : Ext w w') (hN : New w B w') (hB : Box w' B T cs) : St n a w' L wa G ((B,T,cs) :: bs) (B :: N) := by
 have h2 := h.ext hE
 refine ⟨h2.ag,h2.chg,fun b hb => ?_,?_,fun b hb => ?_,?_⟩
 ·rcases List.mem_cons.1 hb with rfl | hb
  ·exact hB
  ·exact h2.box b hb
 ·rw [List.map_cons,List.nodup_cons]
  refine ⟨fun hm => ?_,h.nd⟩
  obtain ⟨b,hb,e⟩ := List.mem_map.1 hm
  have := (h.box b hb).lt
  have := hN.ge
  simp only at e; omega
 ·rcases List.mem_cons.1 hb with rfl | hb
  ·exact New.of h.chg hN
  ·exact h2.new b hb
 ·rw [List.nodup_cons]
  refine ⟨fun hm => ?_,h.nnd⟩
  have := (h.new B hm).lt
  have := hN.ge
  omega
theorem gE {α : Sort _} {V : α → Prop} (k : ∀ x,Go n L wa w G bs N (V x) C) : Go n L wa w G bs N (∃ x,V x) C := fun a s ⟨x,h⟩ => k x a s h
theorem gQ {d : Nat} {v u : Value} (k : Go n ((d,u) :: L) wa w G bs N V C) : Go n ((d,v) :: L) wa w G bs N (v = u ∧ V) C := fun a s ⟨h,hv⟩ => by subst h; exact k a s hv
theorem gA {A : Prop} (k : A → Go n L wa w G bs N V C) : Go n L wa w G bs N (A ∧ V) C := fun a s ⟨h,hv⟩ => k h a s hv
theorem gP {A : Prop} (h : A) (k : Go n L wa w G bs N (A ∧ V) C) : Go n L wa w G bs N V C := fun a s hv => k a s ⟨h,hv⟩
theorem gH {V' : Prop} (h : V' → V) (k : Go n L wa w G bs N V C) : Go n L wa w G bs N V' C := fun a s hv => k a s (h hv)
theorem gT {V' : Prop} (f : (∀ B ∈ N,New wa B w) → N.Nodup → Chg G wa w → V → V') (k : Go n L w w [] bs [] V' C) : Go n L wa w G bs N V C := fun a s hv => k a ⟨s.ag,Chg.refl _ _,s.box,s.nd,by simp,by simp⟩ (f s.new s.nnd s.chg hv)
theorem gT0 {V : World → Prop} (k : Go n L w w [] bs [] (V w) C) : Go n L wa w G bs N (∀ w',Chg G wa w' → V w') C := gT (fun _ _ h v => v w h) k
theorem gT1 {A : Nat} {V : World → Nat → Prop} (k : Go n L w w [] bs [] (V w A) C) : Go n L wa w G bs [A] (∀ w' A',New wa A' w' → Chg G wa w' → V w' A') C := gT (fun h _ c v => v w A (h A (by simp)) c) k
theorem gT2 {A B : Nat} {V : World → Nat → Nat → Prop} (k : Go n L w w [] bs [] (V w A B) C) : Go n L wa w G bs [B,A] (∀ w' A' B',New wa A' w' → New wa B' w' → A' ≠ B' → Chg G wa w' → V w' A' B') C :=
 gT (fun h d c v => v w A B (h A (by simp)) (h B (by simp)) (fun e => by simp [e] at d) c) k
theorem gT3 {A B D : Nat} {V : World → Nat → Nat → Nat → Prop} (k : Go n L w w [] bs [] (V w A B D) C) : Go n L wa w G bs [D,B,A] (∀ w' A' B' D',New wa A' w' → New wa B' w' → New wa D' w' → A' ≠ B' → A' ≠ D' → B' ≠ D' → Chg G wa w' → V w' A' B' D') C :=
 gT (fun h d c v => v w A B D (h A (by simp)) (h B (by simp)) (h D (by simp)) (fun e => by simp [e] at d) (fun e => by simp [e] at d) (fun e => by simp [e] at d) c) k
def pickB (is : List Nat) (bs : List BX) : List BX := is.filterMap (bs[·]?)
theorem pickB_mem {is : List Nat} {bs : List BX} {b : BX} (h : b ∈ pickB is bs) : b ∈ bs := by
 obtain ⟨i,_,hi⟩ := List.mem_filterMap.1 h
 exact List.mem_of_getElem? hi
theorem pickB_nd {bs : List BX} (hb : (bs.map (·.1)).Nodup) : ∀ {is : List Nat},is.Nodup → ((pickB is bs).map (·.1)).Nodup
 |[],_ => by simp [pickB]
 |i :: is,h => by
  rw [List.nodup_cons] at h
  have ih := pickB_nd hb h.2
  unfold pickB at ih ⊢
  cases hi : bs[i]? with
  |none => rw [List.filterMap_cons_none hi]; exact ih
  |some b =>
   rw [List.filterMap_cons_some hi,List.map_cons,List.nodup_cons]
   refine ⟨fun hm => ?_,ih⟩
   obtain ⟨c,hc,e⟩ := List.mem_map.1 hm
   obtain ⟨j,hj,hcj⟩ := List.mem_filterMap.1 hc
   have h1 : (bs.map (·.1))[i]? = some b.1 := by rw [List.getElem?_map,hi]; rfl
   have h2 : (bs.map (·.1))[j]? = some b.1 := by rw [List.getElem?_map,hcj,← e]; rfl
   obtain ⟨hil,h1⟩ := List.getElem?_eq_some_iff.1 h1
   obtain ⟨hjl,h2⟩ := List.getElem?_eq_some_iff.1 h2
   have : i = j := (List.getElem_inj hb).1 (h1.trans h2.symm)
   subst this
   exact h.1 hj
def distinct : List Nat → Bool
 |[] => true
 |i :: r => !(r.contains i) && distinct r
theorem distinct_nd : ∀ {is : List Nat},distinct is = true → is.Nodup
 |[],_ => by simp
 |i :: r,h => by
  simp only [distinct,Bool.and_eq_true,Bool.not_eq_true',← Bool.not_eq_true,List.contains_iff_mem] at h
  exact List.nodup_cons.2 ⟨h.1,distinct_nd h.2⟩
theorem gX (i : Nat) {B : Nat} {T : TypeId} {cs : List Value} (k : Go n L wa w G bs N V C) (hb : bs[i]? = some (B,T,cs) := by rfl) : Go n L wa w G bs N (∀ _ : Box w B T cs,V) C := fun a s hv => k a s (hv (s.bx i hb))
theorem gS {c d : Code} (k : Go n L wa w G bs N V (c.wp P (Exit.then (d.wp P Q) Q))) : Go n L wa w G bs N V ((Code.seq c d).wp P Q) := fun a s hv => wp_seq (k a s hv)
theorem gR {id : Nat} {l : List Oper} (k : Go n L wa w G bs N V (wpList P l.toArray Q l)) : Go n L wa w G bs N V ((Code.region id l.toArray false).wp P Q) := fun a s hv => wp_region_lit (k a s hv)
theorem gD {id : Nat} {l : List Oper} (k : ∀ w',Go n L wa w' G bs N V (PR P l.toArray Q (List.range 0))) (hm : P.follows .mixedOrders = true := by kernel_rfl) : Go n L wa w G bs N V ((Code.region id l.toArray true).wp P Q) := fun a s hv => draw' hm fun w' hE => k w' a (s.ext hE) hv
theorem gW (k m : Nat) (Vs : List (Nat × RS)) (h : Go n L wa w G bs N V (SeqE P ops (waitsFor ops) Vs (k + m) (PR P ops Q (List.range (k + m))) [] ((ops.toList.drop k).take m))) (hc : spanOk n ops k m = true := by kernel_rfl) : Go n L wa w G bs N V (PR P ops Q (List.range k)) := fun a s hv => PR_walk s.ag hc (h a s hv)
def nextOk (ops : Array Oper) (k : Nat) : Bool := let D := waitsFor ops; backOk ops && certOk ops D && doneOk D (List.range k) && waitOk ops D (List.range k) [k] && apartOk (List.range k) [k]
theorem gO (k : Nat) {o : Oper} (h : Go n L wa w G bs N V (OL P ops Q (PR P ops Q (List.range (k + 1))) [o])) (ho : ops[k]? = some o := by rfl) (hc : nextOk ops k = true := by kernel_rfl) : Go n L wa w G bs N V (PR P ops Q (List.range k)) := fun a s hv => by
 have h1 : opK P ops Q o (PR P ops Q (List.range (k + 1))) a w := h a s hv
 rw [List.range_succ] at h1
 simp only [nextOk,Bool.and_eq_true] at hc
 obtain ⟨⟨⟨⟨h2,h3⟩,h4⟩,h5⟩,h6⟩ := hc
 exact PR_one h2 h3 h4 h5 h6 ho h1
theorem gZ {k : Nat} (h : Go n L wa w G bs N V (Q .normal)) (hc : ((List.range ops.size).all fun i => (List.range k).contains i) = true := by kernel_rfl) : Go n L wa w G bs N V (PR P ops Q (List.range k)) := fun a s hv => PR_end hc (h a s hv)
theorem ge (k : Go n L wa w G bs N V (Q .normal)) : Go n L wa w G bs N V (wpList P ops Q []) := k
theorem geO (k : Go n L wa w G bs N V K) : Go n L wa w G bs N V (OL P ops Q K []) := k
theorem tn (k : Go n L wa w G bs N V K) : Go n L wa w G bs N V (Exit.then K Q .normal) := k
theorem te {i : Nat} (k : Go n L wa w G bs N V (Q (.exit i))) : Go n L wa w G bs N V (Exit.then K Q (.exit i)) := k
theorem tr (k : Go n L wa w G bs N V (Q .ret)) : Go n L wa w G bs N V (Exit.then K Q .ret) := k
theorem gk (k : Go n L wa w G bs N V (Q .normal)) : Go n L wa w G bs N V (Code.skip.wp P Q) := fun a s hv => wp_skip (k a s hv)
theorem gl {l : Nat} (k : Go n L wa w G bs N V (Q .normal)) : Go n L wa w G bs N V ((Code.label l).wp P Q) := fun a s hv => wp_label (k a s hv)
theorem gx {i : Nat} (k : Go n L wa w G bs N V (Q (.exit i))) : Go n L wa w G bs N V ((Code.exit i).wp P Q) := fun a s hv => wp_exit (k a s hv)
theorem gr (k : Go n L wa w G bs N V (Q .ret)) : Go n L wa w G bs N V (Code.ret.wp P Q) := fun a s hv => wp_ret (k a s hv)
theorem gb {i : Nat} {c : Code} (k : Go n L wa w G bs N V (c.wp P (Exit.inBlock i Q))) : Go n L wa w G bs N V ((Code.block i c).wp P Q) := fun a s hv => wp_block (k a s hv)
theorem bn {i : Nat} (k : Go n L wa w G bs N V (Q .normal)) : Go n L wa w G bs N V (Exit.inBlock i Q .normal) := k
theorem bh {i : Nat} (k : Go n L wa w G bs N V (Q .normal)) : Go n L wa w G bs N V (Exit.inBlock i Q (.exit i)) := fun a s hv => block_hit (k a s hv)
theorem bm {i j : Nat} (k : Go n L wa w G bs N V (Q (.exit j))) (hne : Nat.beq j i = false := by rfl) : Go n L wa w G bs N V (Exit.inBlock i Q (.exit j)) := fun a s hv => block_miss hne (k a s hv)
theorem br {i : Nat} (k : Go n L wa w G bs N V (Q .ret)) : Go n L wa w G bs N V (Exit.inBlock i Q .ret) := k
theorem gs {c : Code} (k : Go n L wa w G bs N V (c.wp P (Exit.noGoto Q))) : Go n L wa w G bs N V ((Code.scope c).wp P Q) := fun a s hv => wp_scope_straight (k a s hv)
theorem sr (k : Go n L wa w G bs N V (Q .ret)) : Go n L wa w G bs N V (Exit.noGoto Q .ret) := k
section vals
variable {d : Nat} {op : Op} {ty : TypeId} {pos : String} {after : Array Edge} {v : Value}
theorem gv [i : Stp P ops X] (hr : ∀ a w',St n a w' L wa G bs N → Ext w w' → (execOp a.eval ⟨some d,op,ty,pos,after,none⟩).run P w' = .ok (.value v) w') (k : Go n ((d,v) :: L) wa w G bs N V (X r)) (hd : (i.ok r && Nat.blt d n) = true := by rfl) :
  Go n L wa w G bs N V (X (⟨some d,op,ty,pos,after,none⟩ :: r)) := fun a s hv => by
 rw [Bool.and_eq_true] at hd
 exact Stp.stp hd.1 (fun w' hE => .inl ⟨by simp [Region.wanted],hr a w' (s.ext hE) hE⟩) (k _ (s.put hd.2) hv)
theorem gvG [i : Stp P ops X] {j tj : Nat} {want g e : Bool} (hr : ∀ a w',St n a w' L wa G bs N → Ext w w' → (g && (e == want)) = true → (execOp a.eval ⟨some d,op,ty,pos,after,some (j,want)⟩).run P w' = .ok (.value v) w') (k : Go n ((d,cV (g && (e == want)) v) :: L) wa w G bs N V (X r))
  (hj : (ops[j]?).bind (·.dst) = some tj) (hl : GU L tj g e) (hd : (i.ok r && Nat.blt d n) = true) : Go n L wa w G bs N V (X (⟨some d,op,ty,pos,after,some (j,want)⟩ :: r)) := fun a s hv => by
 rw [Bool.and_eq_true] at hd
 have hw := wanted_of (ops := ops) (want := want) (dst := some d) (op := op) (ty := ty) (pos := pos) (after := after) s.ag hj hl
 by_cases h : (g && (e == want)) = true
 ·refine Stp.stp (v := v) hd.1 (fun w' hE => .inl ⟨hw.trans h,hr a w' (s.ext hE) hE h⟩) ?_
  have := k _ (s.put hd.2) hv
  rw [h] at this
  exact this
 ·have hf : (g && (e == want)) = false := by simpa using h
  refine Stp.stp (v := undef) hd.1 (fun w' hE => .inr ⟨hw.trans hf,rfl⟩) ?_
  have := k _ (s.put hd.2) hv
  rw [hf] at this
  exact this
theorem g1 [i : Stp P ops X] {x : Operand} {u : Value} (R : ∀ {ρ : Operand → Value} {w' : World},ρ x = u → (execOp ρ ⟨some d,op,ty,pos,after,none⟩).run P w' = .ok (.value v) w') (k : Go n ((d,v) :: L) wa w G bs N V (X r)) (hx : opv L x = some u := by rfl) (hd : (i.ok r && Nat.blt d n) = true := by rfl) :
  Go n L wa w G bs N V (X (⟨some d,op,ty,pos,after,none⟩ :: r)) := gv (fun _ _ s _ => R (s.ag.opv hx)) k hd
theorem g2 [i : Stp P ops X] {x y : Operand} {u z : Value} (R : ∀ {ρ : Operand → Value} {w' : World},ρ x = u → ρ y = z → (execOp ρ ⟨some d,op,ty,pos,after,none⟩).run P w' = .ok (.value v) w') (k : Go n ((d,v) :: L) wa w G bs N V (X r)) (hx : opv L x = some u := by rfl) (hy : opv L y = some z := by rfl) (hd : (i.ok r && Nat.blt d n) = true := by rfl) :
  Go n L wa w G bs N V (X (⟨some d,op,ty,pos,after,none⟩ :: r)) := gv (fun _ _ s _ => R (s.ag.opv hx) (s.ag.opv hy)) k hd
theorem g1s [i : Stp P ops X] {x : Operand} {u : Value} {A : Prop} (R : ∀ {ρ : Operand → Value} {w' : World},ρ x = u → A → (execOp ρ ⟨some d,op,ty,pos,after,none⟩).run P w' = .ok (.value v) w') (k : Go n ((d,v) :: L) wa w G bs N V (X r)) (hx : opv L x = some u := by rfl) (hd : (i.ok r && Nat.blt d n) = true := by rfl) :
  Go n L wa w G bs N (A ∧ V) (X (⟨some d,op,ty,pos,after,none⟩ :: r)) := gA fun h => gv (fun _ _ s _ => R (s.ag.opv hx) h) k hd
theorem g2s [i : Stp P ops X] {x y : Operand} {u z : Value} {A : Prop} (R : ∀ {ρ : Operand → Value} {w' : World},ρ x = u → ρ y = z → A → (execOp ρ ⟨some d,op,ty,pos,after,none⟩).run P w' = .ok (.value v) w') (k : Go n ((d,v) :: L) wa w G bs N V (X r)) (hx : opv L x = some u := by rfl) (hy : opv L y = some z := by rfl) (hd : (i.ok r && Nat.blt d n) = true := by rfl) :
  Go n L wa w G bs N (A ∧ V) (X (⟨some d,op,ty,pos,after,none⟩ :: r)) := gA fun h => gv (fun _ _ s _ => R (s.ag.opv hx) (s.ag.opv hy) h) k hd
theorem g3s [i : Stp P ops X] {x y q : Operand} {u z t : Value} {A : Prop} (R : ∀ {ρ : Operand → Value} {w' : World},ρ x = u → ρ y = z → ρ q = t → A → (execOp ρ ⟨some d,op,ty,pos,after,none⟩).run P w' = .ok (.value v) w') (k : Go n ((d,v) :: L) wa w G bs N V (X r)) (hx : opv L x = some u := by rfl) (hy : opv L y = some z := by rfl) (hq : opv L q = some t := by rfl) (hd : (i.ok r && Nat.blt d n) = true := by rfl) :
  Go n L wa w G bs N (A ∧ V) (X (⟨some d,op,ty,pos,after,none⟩ :: r)) := gA fun h => gv (fun _ _ s _ => R (s.ag.opv hx) (s.ag.opv hy) (s.ag.opv hq) h) k hd
theorem g4s [i : Stp P ops X] {x y q f : Operand} {u z t b : Value} {A : Prop} (R : ∀ {ρ : Operand → Value} {w' : World},ρ x = u → ρ y = z → ρ q = t → ρ f = b → A → (execOp ρ ⟨some d,op,ty,pos,after,none⟩).run P w' = .ok (.value v) w') (k : Go n ((d,v) :: L) wa w G bs N V (X r)) (hx : opv L x = some u := by rfl) (hy : opv L y = some z := by rfl) (hq : opv L q = some t := by rfl) (hf : opv L f = some b := by rfl) (hd : (i.ok r && Nat.blt d n) = true := by rfl) :
  Go n L wa w G bs N (A ∧ V) (X (⟨some d,op,ty,pos,after,none⟩ :: r)) := gA fun h => gv (fun _ _ s _ => R (s.ag.opv hx) (s.ag.opv hy) (s.ag.opv hq) (s.ag.opv hf) h) k hd
theorem gM [i : Stp P ops X] {x : Operand} (k : Go n ((d,v) :: L) wa w G bs N V (X r)) (hx : opv L x = some v := by rfl) (hd : (i.ok r && Nat.blt d n) = true := by rfl) : Go n L wa w G bs N V (X (⟨some d,.move x,ty,pos,after,none⟩ :: r)) := gv (fun _ _ s _ => r_move (s.ag.opv hx)) k hd
theorem gN [i : Stp P ops X] {x : Operand} (k : Go n ((d,v) :: L) wa w G bs N V (X r)) (hx : opv L x = some v := by rfl) (hd : (i.ok r && Nat.blt d n) = true := by rfl) : Go n L wa w G bs N V (X (⟨some d,.assign x,ty,pos,after,none⟩ :: r)) := gv (fun _ _ s _ => r_assign (s.ag.opv hx)) k hd
theorem gF [i : Stp P ops X] {s ft : TypeId} {x : Operand} {p : Addr} {q : Nat} {fs : Array Field} {z : Value} {size bytes : Nat} (off : Nat) (hu : P.underlying s = some (.struct fs)) (ht : TI P ft z size bytes) (k : Go n ((d,.pointer (some (p.add off))) :: L) wa w G bs N V (X r)) (hx : opv L x = some (.pointer (some p)) := by rfl) (hf : (fs[q]?).map (fun f => (f.type,f.offset)) = some (ft,off) := by rfl) (h0 : Nat.beq size 0 = false := by rfl) (hd : (i.ok r && Nat.blt d n) = true := by rfl) :
  Go n L wa w G bs N V (X (⟨some d,.fieldAddr s x q,ty,pos,after,none⟩ :: r)) := by
 obtain ⟨f,h1,h2⟩ := Option.map_eq_some_iff.1 hf
 injection h2 with h2 h3
 subst h2; subst h3
 exact gv (fun _ _ s _ => r_fieldAddr (s.ag.opv hx) hu h1 ht (fun e => by subst e; cases h0)) k hd
theorem gL [i : Stp P ops X] {t : TypeId} {x : Operand} {p : Addr} {dd : TypeDesc} (hu : P.underlying t = some dd) (k : Go n ((d,v) :: L) wa w G bs N V (X r)) (hn : notAgg dd = true := by rfl) (hx : opv L x = some (.pointer (some p)) := by rfl) (hd : (i.ok r && Nat.blt d n) = true := by rfl) :
  Go n L wa w G bs N (w.cell? p = some v ∧ V) (X (⟨some d,.load t x,ty,pos,after,none⟩ :: r)) := gA fun hc => gv (fun _ _ s hE => r_load1 hu hn (s.ag.opv hx) (Ext.cell hE hc)) k hd
theorem gLN [i : Stp P ops X] {t : TypeId} {x : Operand} {p : Addr} {dd : TypeDesc} {cs : List Value} {z : Value} {bytes : Nat} (hu : P.underlying t = some dd) (ht : TI P t z cs.length bytes) (k : Go n ((d,.agg cs.toArray) :: L) wa w G bs N V (X r)) (hn : notAgg dd = false := by rfl) (hx : opv L x = some (.pointer (some p)) := by rfl) (hd : (i.ok r && Nat.blt d n) = true := by rfl) :
  Go n L wa w G bs N (Cells w p cs ∧ V) (X (⟨some d,.load t x,ty,pos,after,none⟩ :: r)) := gA fun hc => gv (fun _ _ s hE => r_loadN hu hn ht (s.ag.opv hx) (hc.ext hE)) k hd
theorem gB [i : Stp P ops X] (q : Nat) {t : TypeId} {x : Operand} {B o : Nat} {T : TypeId} {cs : List Value} {dd : TypeDesc} (hu : P.underlying t = some dd) (k : Go n ((d,v) :: L) wa w G bs N V (X r)) (hn : notAgg dd = true := by rfl) (hb : bs[q]? = some (B,T,cs) := by rfl) (hx : opv L x = some (.pointer (some ⟨B,o,none⟩)) := by rfl) (hc : cs[o]? = some v := by rfl) (hd : (i.ok r && Nat.blt d n) = true := by rfl) :
  Go n L wa w G bs N V (X (⟨some d,.load t x,ty,pos,after,none⟩ :: r)) := gv (fun _ _ s _ => r_load1 hu hn (s.ag.opv hx) ((s.bx q hb).cell o _ hc)) k hd
theorem gBN [i : Stp P ops X] (q m : Nat) {t : TypeId} {x : Operand} {B o : Nat} {T : TypeId} {cs : List Value} {dd : TypeDesc} {z : Value} {bytes : Nat} (hu : P.underlying t = some dd) (ht : TI P t z m bytes) (k : Go n ((d,.agg ((cs.drop o).take m).toArray) :: L) wa w G bs N V (X r)) (hn : notAgg dd = false := by rfl) (hb : bs[q]? = some (B,T,cs) := by rfl) (hx : opv L x = some (.pointer (some ⟨B,o,none⟩)) := by rfl) (hm : Nat.ble (o + m) cs.length = true := by rfl) (hd : (i.ok r && Nat.blt d n) = true := by rfl) :
  Go n L wa w G bs N V (X (⟨some d,.load t x,ty,pos,after,none⟩ :: r)) := by
 have hm' : o + m ≤ cs.length := by simpa using hm
 have hlen : ((cs.drop o).take m).length = m := by simp; omega
 refine gv (fun _ _ s _ => r_loadN (cs := (cs.drop o).take m) hu hn (hlen.symm ▸ ht) (s.ag.opv hx) ((s.bx q hb).part o _ (by rw [hlen]))) k hd
theorem gI [i : Stp P ops X] {t e : TypeId} {x y : Operand} {s : Sl} {κ : IntKind} {q : Int} {p : Addr} {z : Value} {size bytes : Nat} (hu : P.underlying t = some (.slice e)) (ht : TI P e z size bytes) (hb : 0 ≤ q ∧ q < s.n) (ha : s.a = some p) (k : Go n ((d,.pointer (some (p.add (q.toNat * size)))) :: L) wa w G bs N V (X r)) (hx : opv L x = some s.v) (hy : opv L y = some (.int κ q)) (hd : (i.ok r && Nat.blt d n) = true) :
  Go n L wa w G bs N V (X (⟨some d,.indexAddr t x y,ty,pos,after,none⟩ :: r)) := gv (fun _ _ s _ => r_indexAddr (s.ag.opv hx) (s.ag.opv hy) hu ht hb ha) k hd
theorem gI1 [i : Stp P ops X] {t e : TypeId} {x y : Operand} {s : Sl} {κ : IntKind} {q : Int} {z : Value} {size bytes : Nat} {V : Addr → Prop} (hu : P.underlying t = some (.slice e)) (ht : TI P e z size bytes) (k : ∀ p,Go n ((d,.pointer (some (p.add (q.toNat * size)))) :: L) wa w G bs N (V p) (X r)) (hx : opv L x = some s.v := by rfl) (hy : opv L y = some (.int κ q) := by rfl) (hd : (i.ok r && Nat.blt d n) = true := by rfl) :
  Go n L wa w G bs N ((0 ≤ q ∧ q < s.n) ∧ ∃ p,s.a = some p ∧ V p) (X (⟨some d,.indexAddr t x y,ty,pos,after,none⟩ :: r)) := gA fun hb => gE fun p => gA fun ha => gI hu ht hb ha (k p) hx hy hd
theorem gI2 [i : Stp P ops X] {t e : TypeId} {x y : Operand} {s : Sl} {κ : IntKind} {q : Int} {z : Value} {size bytes : Nat} {V : Addr → Prop} (hu : P.underlying t = some (.slice e)) (ht : TI P e z size bytes) (k : ∀ p,Go n ((d,.pointer (some (p.add (q.toNat * size)))) :: L) wa w G bs N (V p) (X r)) (hx : opv L x = some s.v := by rfl) (hy : opv L y = some (.int κ q) := by rfl) (hd : (i.ok r && Nat.blt d n) = true := by rfl) :
  Go n L wa w G bs N (∃ p,((0 ≤ q ∧ q < s.n) ∧ s.a = some p) ∧ V p) (X (⟨some d,.indexAddr t x y,ty,pos,after,none⟩ :: r)) := gE fun p => gA fun hb => gI hu ht hb.1 hb.2 (k p) hx hy hd
theorem gnP [i : Stp P ops X] {x : Operand} {o : Option Addr} {V : Addr → Prop} (k : ∀ p,Go n ((d,.pointer (some p)) :: L) wa w G bs N (V p) (X r)) (hx : opv L x = some (.pointer o) := by rfl) (hd : (i.ok r && Nat.blt d n) = true := by rfl) :
  Go n L wa w G bs N (∃ p,o = some p ∧ V p) (X (⟨some d,.nilCheck x,ty,pos,after,none⟩ :: r)) := gE fun p => gA fun hp => gv (fun _ _ s _ => r_nilCheck ((s.ag.opv hx).trans (congrArg Value.pointer hp))) (k p) hd
theorem gx1 [i : Stp P ops X] {x : Operand} {vs : Array Value} {q : Nat} (k : Go n ((d,v) :: L) wa w G bs N V (X r)) (hx : opv L x = some (.tuple vs) := by rfl) (hv : vs[q]? = some v := by rfl) (hd : (i.ok r && Nat.blt d n) = true := by rfl) :
  Go n L wa w G bs N V (X (⟨some d,.extract x q,ty,pos,after,none⟩ :: r)) := gv (fun _ _ s _ => r_extract (s.ag.opv hx) hv) k hd
theorem gbu [i : Stp P ops X] {t : TypeId} {xs : List (Nat × Operand)} {vs : List (Nat × Value)} {fs : Array Field} {places : Array (Nat × Nat)} {cells : Array Value} {z : Value} {size bytes : Nat} (hz : TI P t z size bytes) (hu : P.underlying t = some (.struct fs)) (hpl : ∀ w,(fs.mapM fun (f : Field) => (do pure (f.offset,← sizeOf f.type) : Sem (Nat × Nat))).run P w = .ok places w) (hx : OPs L true xs vs)
  (k : Go n ((d,.agg cells) :: L) wa w G bs N V (X r)) (hf : Instr.fill (places[·]?) z.cells vs.toArray.toList = some cells := by rfl) (hd : (i.ok r && Nat.blt d n) = true := by rfl) :
  Go n L wa w G bs N V (X (⟨some d,.build t xs.toArray,ty,pos,after,none⟩ :: r)) := gv (fun _ _ s _ => r_build (hx.map s.ag rfl) hz hu hpl hf) k hd
variable {j tj : Nat} {want g e : Bool}
theorem G1 [i : Stp P ops X] {x : Operand} {u : Value} (R : ∀ {ρ : Operand → Value} {w' : World},ρ x = u → (execOp ρ ⟨some d,op,ty,pos,after,some (j,want)⟩).run P w' = .ok (.value v) w') (k : Go n ((d,cV (g && (e == want)) v) :: L) wa w G bs N V (X r)) (hj : (ops[j]?).bind (·.dst) = some tj := by rfl) (hl : GU L tj g e := by first | exact GU.cv rfl | exact GU.pl rfl)
  (hx : OG L x (g && (e == want)) u := by first | exact OG.cv rfl | exact OG.pl rfl) (hd : (i.ok r && Nat.blt d n) = true := by rfl) : Go n L wa w G bs N V (X (⟨some d,op,ty,pos,after,some (j,want)⟩ :: r)) := gvG (fun _ _ s _ hg => R (hx hg _ _ s.ag)) k hj hl hd
theorem G2 [i : Stp P ops X] {x y : Operand} {u z : Value} (R : ∀ {ρ : Operand → Value} {w' : World},ρ x = u → ρ y = z → (execOp ρ ⟨some d,op,ty,pos,after,some (j,want)⟩).run P w' = .ok (.value v) w') (k : Go n ((d,cV (g && (e == want)) v) :: L) wa w G bs N V (X r)) (hj : (ops[j]?).bind (·.dst) = some tj := by rfl) (hl : GU L tj g e := by first | exact GU.cv rfl | exact GU.pl rfl)
  (hx : OG L x (g && (e == want)) u := by first | exact OG.cv rfl | exact OG.pl rfl) (hy : OG L y (g && (e == want)) z := by first | exact OG.cv rfl | exact OG.pl rfl) (hd : (i.ok r && Nat.blt d n) = true := by rfl) : Go n L wa w G bs N V (X (⟨some d,op,ty,pos,after,some (j,want)⟩ :: r)) := gvG (fun _ _ s _ hg => R (hx hg _ _ s.ag) (hy hg _ _ s.ag)) k hj hl hd
theorem G2s [i : Stp P ops X] {x y : Operand} {u z : Value} {A p : Prop} (R : ∀ {ρ : Operand → Value} {w' : World},ρ x = u → ρ y = z → A → (execOp ρ ⟨some d,op,ty,pos,after,some (j,want)⟩).run P w' = .ok (.value v) w') (hp : (g && (e == want)) = true → p) (k : Go n ((d,cV (g && (e == want)) v) :: L) wa w G bs N V (X r)) (hj : (ops[j]?).bind (·.dst) = some tj := by rfl) (hl : GU L tj g e := by first | exact GU.cv rfl | exact GU.pl rfl)
  (hx : OG L x (g && (e == want)) u := by first | exact OG.cv rfl | exact OG.pl rfl) (hy : OG L y (g && (e == want)) z := by first | exact OG.cv rfl | exact OG.pl rfl) (hd : (i.ok r && Nat.blt d n) = true := by rfl) : Go n L wa w G bs N ((p → A) ∧ V) (X (⟨some d,op,ty,pos,after,some (j,want)⟩ :: r)) := gA fun h => gvG (fun _ _ s _ hg => R (hx hg _ _ s.ag) (hy hg _ _ s.ag) (h (hp hg))) k hj hl hd
theorem GF [i : Stp P ops X] {s ft : TypeId} {x : Operand} {p : Addr} {q : Nat} {fs : Array Field} {z : Value} {size bytes : Nat} (off : Nat) (hu : P.underlying s = some (.struct fs)) (ht : TI P ft z size bytes) (k : Go n ((d,cV (g && (e == want)) (.pointer (some (p.add off)))) :: L) wa w G bs N V (X r)) (hj : (ops[j]?).bind (·.dst) = some tj := by rfl) (hl : GU L tj g e := by first | exact GU.cv rfl | exact GU.pl rfl)
  (hx : OG L x (g && (e == want)) (.pointer (some p)) := by first | exact OG.cv rfl | exact OG.pl rfl) (hf : (fs[q]?).map (fun f => (f.type,f.offset)) = some (ft,off) := by rfl) (h0 : Nat.beq size 0 = false := by rfl) (hd : (i.ok r && Nat.blt d n) = true := by rfl) :
  Go n L wa w G bs N V (X (⟨some d,.fieldAddr s x q,ty,pos,after,some (j,want)⟩ :: r)) := by
 obtain ⟨f,h1,h2⟩ := Option.map_eq_some_iff.1 hf
 injection h2 with h2 h3
 subst h2; subst h3
 exact gvG (fun _ _ s _ hg => r_fieldAddr (hx hg _ _ s.ag) hu h1 ht (fun e => by subst e; cases h0)) k hj hl hd
theorem GLd [i : Stp P ops X] {t : TypeId} {x : Operand} {p : Addr} {dd : TypeDesc} {A : Prop} (hu : P.underlying t = some dd) (hp : (g && (e == want)) = true → A) (k : Go n ((d,cV (g && (e == want)) v) :: L) wa w G bs N V (X r)) (hj : (ops[j]?).bind (·.dst) = some tj := by rfl) (hl : GU L tj g e := by first | exact GU.cv rfl | exact GU.pl rfl) (hn : notAgg dd = true := by rfl)
  (hx : OG L x (g && (e == want)) (.pointer (some p)) := by first | exact OG.cv rfl | exact OG.pl rfl) (hd : (i.ok r && Nat.blt d n) = true := by rfl) :
  Go n L wa w G bs N ((A → w.cell? p = some v) ∧ V) (X (⟨some d,.load t x,ty,pos,after,some (j,want)⟩ :: r)) := gA fun hc => gvG (fun _ _ s hE hg => r_load1 hu hn (hx hg _ _ s.ag) (Ext.cell hE (hc (hp hg)))) k hj hl hd
theorem GB [i : Stp P ops X] (q : Nat) {t : TypeId} {x : Operand} {B o : Nat} {T : TypeId} {cs : List Value} {dd : TypeDesc} (hu : P.underlying t = some dd) (k : Go n ((d,cV (g && (e == want)) v) :: L) wa w G bs N V (X r)) (hj : (ops[j]?).bind (·.dst) = some tj := by rfl) (hl : GU L tj g e := by first | exact GU.cv rfl | exact GU.pl rfl) (hn : notAgg dd = true := by rfl) (hb : bs[q]? = some (B,T,cs) := by rfl)
  (hx : OG L x (g && (e == want)) (.pointer (some ⟨B,o,none⟩)) := by first | exact OG.cv rfl | exact OG.pl rfl) (hc : cs[o]? = some v := by rfl) (hd : (i.ok r && Nat.blt d n) = true := by rfl) :
  Go n L wa w G bs N V (X (⟨some d,.load t x,ty,pos,after,some (j,want)⟩ :: r)) := gvG (fun _ _ s _ hg => r_load1 hu hn (hx hg _ _ s.ag) ((s.bx q hb).cell o _ hc)) k hj hl hd
theorem GBN [i : Stp P ops X] (q m : Nat) {t : TypeId} {x : Operand} {B o : Nat} {T : TypeId} {cs : List Value} {dd : TypeDesc} {z : Value} {bytes : Nat} (hu : P.underlying t = some dd) (ht : TI P t z m bytes) (k : Go n ((d,cV (g && (e == want)) (.agg ((cs.drop o).take m).toArray)) :: L) wa w G bs N V (X r)) (hj : (ops[j]?).bind (·.dst) = some tj := by rfl) (hl : GU L tj g e := by first | exact GU.cv rfl | exact GU.pl rfl) (hn : notAgg dd = false := by rfl) (hb : bs[q]? = some (B,T,cs) := by rfl)
  (hx : OG L x (g && (e == want)) (.pointer (some ⟨B,o,none⟩)) := by first | exact OG.cv rfl | exact OG.pl rfl) (hm : Nat.ble (o + m) cs.length = true := by rfl) (hd : (i.ok r && Nat.blt d n) = true := by rfl) :
  Go n L wa w G bs N V (X (⟨some d,.load t x,ty,pos,after,some (j,want)⟩ :: r)) := by
 have hm' : o + m ≤ cs.length := by simpa using hm
 have hlen : ((cs.drop o).take m).length = m := by simp; omega
 exact gvG (fun _ _ s _ hg => r_loadN (cs := (cs.drop o).take m) hu hn (hlen.symm ▸ ht) (hx hg _ _ s.ag) ((s.bx q hb).part o _ (by rw [hlen]))) k hj hl hd
theorem GI2 [i : Stp P ops X] {t ee : TypeId} {x y : Operand} {s : Sl} {κ : IntKind} {q : Int} {z : Value} {size bytes : Nat} {A : Prop} {V : Addr → Prop} (hu : P.underlying t = some (.slice ee)) (ht : TI P ee z size bytes) (hp : (g && (e == want)) = true → A) (k : ∀ p,Go n ((d,cV (g && (e == want)) (.pointer (some (p.add (q.toNat * size))))) :: L) wa w G bs N (V p) (X r)) (hj : (ops[j]?).bind (·.dst) = some tj := by rfl) (hl : GU L tj g e := by first | exact GU.cv rfl | exact GU.pl rfl)
  (hx : OG L x (g && (e == want)) s.v := by first | exact OG.cv rfl | exact OG.pl rfl) (hy : OG L y (g && (e == want)) (.int κ q) := by first | exact OG.cv rfl | exact OG.pl rfl) (hd : (i.ok r && Nat.blt d n) = true := by rfl) :
  Go n L wa w G bs N (∃ p,(A → (0 ≤ q ∧ q < s.n) ∧ s.a = some p) ∧ V p) (X (⟨some d,.indexAddr t x y,ty,pos,after,some (j,want)⟩ :: r)) := gE fun p => gA fun hb => gvG (fun _ _ s _ hg => r_indexAddr (hx hg _ _ s.ag) (hy hg _ _ s.ag) hu ht (hb (hp hg)).1 (hb (hp hg)).2) (k p) hj hl hd
theorem gpo [i : Stp P ops X] {x y : Operand} {b f : Bool} (k : Go n ((d,.bool (b || f)) :: L) wa w G bs N V (X r)) (hx : opv L x = some (.bool b) := by rfl) (hy : opv L y = some (cV (true && (b == false)) (.bool f)) := by rfl) (hd : (i.ok r && Nat.blt d n) = true := by rfl) :
  Go n L wa w G bs N V (X (⟨some d,.pick x (.const (.bool true)) y,ty,pos,after,none⟩ :: r)) := gv (fun _ _ s _ => r_pick_or (s.ag.opv hx) (s.ag.opv hy) (fun he => by rw [he]; rfl)) k hd
theorem gpa [i : Stp P ops X] {x y : Operand} {b f : Bool} (k : Go n ((d,.bool (b && f)) :: L) wa w G bs N V (X r)) (hx : opv L x = some (.bool b) := by rfl) (hy : opv L y = some (cV (true && (b == true)) (.bool f)) := by rfl) (hd : (i.ok r && Nat.blt d n) = true := by rfl) :
  Go n L wa w G bs N V (X (⟨some d,.pick x y (.const (.bool false)),ty,pos,after,none⟩ :: r)) := gv (fun _ _ s _ => r_pick_and (s.ag.opv hx) (s.ag.opv hy) (fun he => by rw [he]; rfl)) k hd
theorem Gpo [i : Stp P ops X] {x y : Operand} {b f g' : Bool} (k : Go n ((d,cV (g && (e == want)) (.bool (b || f))) :: L) wa w G bs N V (X r)) (hj : (ops[j]?).bind (·.dst) = some tj := by rfl) (hl : GU L tj g e := by first | exact GU.cv rfl | exact GU.pl rfl) (hx : OG L x (g && (e == want)) (.bool b) := by first | exact OG.cv rfl | exact OG.pl rfl)
  (hy : opv L y = some (cV (g' && (b == false)) (.bool f)) := by rfl) (hi : GI (g && (e == want)) g' := by infer_instance) (hd : (i.ok r && Nat.blt d n) = true := by rfl) :
  Go n L wa w G bs N V (X (⟨some d,.pick x (.const (.bool true)) y,ty,pos,after,some (j,want)⟩ :: r)) := gvG (fun _ _ s _ hg => r_pick_or (hx hg _ _ s.ag) (s.ag.opv hy) (fun he => by rw [he,hi.h hg]; rfl)) k hj hl hd
theorem Gpa [i : Stp P ops X] {x y : Operand} {b f g' : Bool} (k : Go n ((d,cV (g && (e == want)) (.bool (b && f))) :: L) wa w G bs N V (X r)) (hj : (ops[j]?).bind (·.dst) = some tj := by rfl) (hl : GU L tj g e := by first | exact GU.cv rfl | exact GU.pl rfl) (hx : OG L x (g && (e == want)) (.bool b) := by first | exact OG.cv rfl | exact OG.pl rfl)
  (hy : opv L y = some (cV (g' && (b == true)) (.bool f)) := by rfl) (hi : GI (g && (e == want)) g' := by infer_instance) (hd : (i.ok r && Nat.blt d n) = true := by rfl) :
  Go n L wa w G bs N V (X (⟨some d,.pick x y (.const (.bool false)),ty,pos,after,some (j,want)⟩ :: r)) := gvG (fun _ _ s _ hg => r_pick_and (hx hg _ _ s.ag) (s.ag.opv hy) (fun he => by rw [he,hi.h hg]; rfl)) k hj hl hd
end vals
end
end
section
open Go.RowKit
def opvs (L : List (Nat × Value)) : List Operand → Option (List Value)
 |[] => some []
 |x :: r => (opv L x).bind fun v => (opvs L r).map fun vs => v :: vs
theorem Ag.opvs {n : Nat} {a : Act} {L : List (Nat × Value)} (h : Ag n a L) {xs : List Operand} {vs : List Value} (hx : Proofs.YtenokfdkckhhiaaGreatDoor.opvs L xs = some vs) : xs.toArray.map a.eval = vs.toArray := by
 have key : ∀ (xs : List Operand) (vs : List Value),Proofs.YtenokfdkckhhiaaGreatDoor.opvs L xs = some vs → xs.map a.eval = vs := by
  intro xs
  induction xs with
  |nil => intro vs h; simp [Proofs.YtenokfdkckhhiaaGreatDoor.opvs] at h; simp [h]
  |cons x r ih =>
   intro vs hx
   rw [Proofs.YtenokfdkckhhiaaGreatDoor.opvs] at hx
   cases h1 : Proofs.YtenokfdkckhhiaaGreatDoor.opv L x with
   |none => rw [h1] at hx; simp at hx
   |some v =>
    cases h2 : Proofs.YtenokfdkckhhiaaGreatDoor.opvs L r with
    |none => rw [h1,h2] at hx; simp at hx
    |some us =>
     rw [h1,h2] at hx
     simp at hx
     rw [List.map_cons,h.opv h1,ih us h2,hx]
 rw [List.map_toArray,key xs vs hx]
def opps (L : List (Nat × Value)) : List (Nat × Operand) → Option (List (Nat × Value))
 |[] => some []
 |(i,x) :: r => (opv L x).bind fun v => (opps L r).map fun vs => (i,v) :: vs
theorem OPs.of {L : List (Nat × Value)} {c : Bool} : ∀ {xs : List (Nat × Operand)} {vs : List (Nat × Value)},opps L xs = some vs → OPs L c xs vs
 |[],vs,h => by simp [opps] at h; subst h; exact .nil
 |(i,x) :: r,vs,h => by
  rw [opps] at h
  cases h1 : opv L x with
  |none => rw [h1] at h; simp at h
  |some v =>
   cases h2 : opps L r with
   |none => rw [h1,h2] at h; simp at h
   |some us =>
    rw [h1,h2] at h
    simp at h
    subst h
    exact .cons (OPs.of h2) (OG.pl h1)
section runs3
variable {P : Program} {ρ : Operand → Value} {w : World} {dst : Option Nat} {ty : TypeId} {pos : String} {after : Array Edge} {guard : Option (Nat × Bool)}
theorem r_mapEntry {t : TypeId} {m k : Operand} {v1 v2 v : Value} {w' : World} (hm : ρ m = v1) (hk : ρ k = v2) (hr : (Instr.mapEntry t v1 v2).run P w = .ok v w') : (execOp ρ ⟨dst,.mapEntry t m k,ty,pos,after,guard⟩).run P w = .ok (.value v) w' := by
 simp [execOp,hm,hk,hr]
theorem r_entryStore {t : TypeId} {m k x : Operand} {v1 v2 v3 : Value} {w' : World} (hm : ρ m = v1) (hk : ρ k = v2) (hx : ρ x = v3) (hr : (Instr.entryStore t v1 v2 v3).run P w = .ok () w') : (execOp ρ ⟨dst,.entryStore t m k x,ty,pos,after,guard⟩).run P w = .ok .skip w' := by
 simp [execOp,hm,hk,hx,hr]
end runs3
section
variable {P : Program} {ops : Array Oper} {Q : Exit → Act → World → Prop} {X : List Oper → Act → World → Prop} {K C : Act → World → Prop} {n : Nat} {a : Act} {w wa : World} {L : List (Nat × Value)} {G N : List Nat} {bs : List BX} {V : Prop} {r : List Oper}
section effs
variable {d : Nat} {op : Op} {ty : TypeId} {pos : String} {after : Array Edge} {v : Value}
theorem ev [Eff P ops Q X] (hr : ∀ a,St n a w L wa G bs N → (execOp a.eval ⟨some d,op,ty,pos,after,none⟩).run P w = .ok (.value v) w) (k : Go n ((d,v) :: L) wa w G bs N V (X r)) (hd : Nat.blt d n = true := by rfl) :
  Go n L wa w G bs N V (X (⟨some d,op,ty,pos,after,none⟩ :: r)) := fun a s hv => Eff.eff (opk_val s.ag hd (hr a s) fun a' h _ => k a' (s.act h) hv)
theorem gNo : Go n L wa w G bs N False C := fun _ _ h => h.elim
theorem gn [Eff P ops Q X] (f : Nat → Value) {T : TypeId} {cs : List Value} (hr : ∀ a,Ag n a L → (execOp a.eval ⟨some d,op,ty,pos,after,none⟩).run P w = .ok (.value (f w.heap.size)) (w.alloc (.cells cs.toArray T (0,0)))) (k : ∀ w' B,Go n ((d,f B) :: L) wa w' G ((B,T,cs) :: bs) (B :: N) V (X r)) (hd : Nat.blt d n = true := by rfl) :
  Go n L wa w G bs N V (X (⟨some d,op,ty,pos,after,none⟩ :: r)) := fun a s hv =>
 Eff.eff (opk_new f s.ag hd (hr a s.ag) fun a' w' B hE hN hB hA _ => k w' B a' ((s.cons hE hN hB).act hA) hv)
theorem nb [Eff P ops Q X] {t : TypeId} {x : Operand} {cs : List Value} (k : ∀ w' B,Go n ((d,.pointer (some ⟨B,0,none⟩)) :: L) wa w' G ((B,t,cs) :: bs) (B :: N) V (X r)) (hx : opv L x = some v := by rfl) (hc : v.cells = cs.toArray := by rfl) (hd : Nat.blt d n = true := by rfl) :
  Go n L wa w G bs N V (X (⟨some d,.box t x,ty,pos,after,none⟩ :: r)) := gn (fun B => .pointer (some ⟨B,0,none⟩)) (fun _ h => r_box (h.opv hx) hc) k hd
theorem na [Eff P ops Q X] {t : TypeId} {z : Value} {size bytes : Nat} {cs : List Value} (ht : TI P t z size bytes) (k : ∀ w' B,Go n ((d,.pointer (some ⟨B,0,none⟩)) :: L) wa w' G ((B,t,cs) :: bs) (B :: N) V (X r)) (hc : z.cells = cs.toArray := by rfl) (hd : Nat.blt d n = true := by rfl) :
  Go n L wa w G bs N V (X (⟨some d,.alloc t,ty,pos,after,none⟩ :: r)) := gn (fun B => .pointer (some ⟨B,0,none⟩)) (fun _ _ => r_alloc ht hc) k hd
theorem ns [Eff P ops Q X] (cs : List Value) {t e len : TypeId} {xs : List (Nat × Operand)} {vs : List (Nat × Value)} {ze : Value} {esize ebytes : Nat} (hu : P.underlying t = some (.slice e)) (he : TI P e ze esize ebytes) (k : ∀ w' B,Go n ((d,.slice (some ⟨B,0,none⟩) len len) :: L) wa w' G ((B,e,cs) :: bs) (B :: N) V (X r))
  (hx : opps L xs = some vs := by rfl) (hle : Nat.ble (len * esize) (2 ^ 24) = true := by rfl) (h0 : Nat.blt 0 (len * esize) = true := by rfl) (hf : Instr.fill (fun i => some (i * esize,esize)) ((Array.range (len * esize)).map (ze.cells[· % ze.cells.size]!)) vs.toArray.toList = some cs.toArray := by kernel_rfl) (hd : Nat.blt d n = true := by rfl) :
  Go n L wa w G bs N V (X (⟨some d,.buildSlice t len xs.toArray,ty,pos,after,none⟩ :: r)) := gn (fun B => .slice (some ⟨B,0,none⟩) len len) (fun _ h => r_buildSlice ((OPs.of hx : OPs L true xs vs).map h rfl) hu he hle h0 hf) k hd
def keepB (is : List Nat) (bs : List BX) : List BX := bif (List.range bs.length).all (fun j => is.contains j) then bs else pickB is bs
theorem keepB_in {is : List Nat} {bs : List BX} {b : BX} (h : b ∈ keepB is bs) : b ∈ bs ∧ b.1 ∈ (pickB is bs).map (·.1) := by
 unfold keepB at h
 cases hc : (List.range bs.length).all (fun j => is.contains j) with
 |false => rw [hc] at h; exact ⟨pickB_mem h,List.mem_map.2 ⟨b,h,rfl⟩⟩
 |true =>
  rw [hc] at h
  have h' : b ∈ bs := h
  simp only [List.all_eq_true,List.mem_range,List.contains_iff_mem] at hc
  obtain ⟨j,hj,e⟩ := List.getElem_of_mem h'
  have hm := hc j hj
  exact ⟨h',List.mem_map.2 ⟨b,List.mem_filterMap.2 ⟨j,hm,by rw [List.getElem?_eq_getElem hj,e]⟩,rfl⟩⟩
theorem keepB_nd {is : List Nat} {bs : List BX} (hb : (bs.map (·.1)).Nodup) (hi : distinct is = true) : ((keepB is bs).map (·.1)).Nodup := by
 unfold keepB
 cases (List.range bs.length).all (fun j => is.contains j) with
 |false => exact pickB_nd hb (distinct_nd hi)
 |true => exact hb
theorem St.behind {w' : World} {a' : Act} {L' : List (Nat × Value)} (s : St n a w L wa G bs N) (is : List Nat) (hi : distinct is = true) (hnt : NoTouch ((pickB is bs).map (·.1)) w w') (hA : Ag n a' L') : St n a' w' L' w' [] (keepB is bs) [] :=
 ⟨hA,Chg.refl _ _,fun b hb => (s.box b (keepB_in hb).1).kept hnt (keepB_in hb).2,keepB_nd s.nd hi,by simp,by simp⟩
theorem gCr [Eff P ops Q X] (is : List Nat) {f : FuncId} {args : Array Value} {bx : List Nat} {R : Value → World → Prop} (hr : ∀ a,Ag n a L → (execOp a.eval ⟨some d,op,ty,pos,after,none⟩).run P w = .ok (.enter f args) w)
  (k : ∀ v w',Go n ((d,v) :: L) w' w' [] (keepB is bs) [] (R v w') (X r)) (hb : (pickB is bs).map (·.1) = bx) (hi : distinct is = true) (hd : Nat.blt d n = true) : Go n L wa w G bs N (CallK P f args w bx R) (X (⟨some d,op,ty,pos,after,none⟩ :: r)) := fun a s hv =>
 Eff.eff (opk_call s.ag hd (hr a s.ag) hv fun a' v w' hA _ hnt _ hR => k v w' a' (s.behind is hi (hb ▸ hnt) hA) hR)
theorem gC [Eff P ops Q X] (is : List Nat) {f : FuncId} {fn : Func} {xs : List Operand} {ts : Array TypeId} {vs : List Value} {bx : List Nat} {R : Value → World → Prop} (hf : P.funcs[f]? = some fn)
  (k : ∀ v w',Go n ((d,v) :: L) w' w' [] (keepB is bs) [] (R v w') (X r)) (hx : opvs L xs = some vs := by rfl) (hn : fn.name ≠ "runtime.NumGoroutine" := by decide) (hb' : fn.body.isSome = true := by rfl) (hb : (pickB is bs).map (·.1) = bx := by rfl) (hi : distinct is = true := by rfl) (hd : Nat.blt d n = true := by rfl) :
  Go n L wa w G bs N (CallK P f vs.toArray w bx R) (X (⟨some d,.call { callee := .value (.func f),args := xs.toArray,argTypes := ts },ty,pos,after,none⟩ :: r)) :=
 gCr is (fun _ h => r_call hf hn hb' (h.opvs hx) rfl) k hb hi hd
theorem GC [Eff P ops Q X] {j tj : Nat} {want g e : Bool} {f : FuncId} {fn : Func} {xs : List Operand} {ts : Array TypeId} {vs : List Value} {p : Prop} {V : World → Prop} (hf : P.funcs[f]? = some fn) (hp : (g && (e == want)) = true → p)
  (k : ∀ w',Go n ((d,cV (g && (e == want)) v) :: L) w' w' [] bs [] (V w') (X r)) (hj : (ops[j]?).bind (·.dst) = some tj := by rfl) (hl : GU L tj g e := by first | exact GU.cv rfl | exact GU.pl rfl) (hx : OGs L (g && (e == want)) xs vs := by repeat' first | exact .nil | refine .cons ?_ (by first | exact OG.cv rfl | exact OG.pl rfl)) (hn : fn.name ≠ "runtime.NumGoroutine" := by decide) (hb' : fn.body.isSome = true := by rfl) (hd : Nat.blt d n = true := by rfl) :
  Go n L wa w G bs N ((p → Calls P f vs.toArray w (Ret fun v' w' => Ext w w' ∧ v' = v)) ∧ ∀ w',Ext w w' → V w') (X (⟨some d,.call { callee := .value (.func f),args := xs.toArray,argTypes := ts },ty,pos,after,some (j,want)⟩ :: r)) := fun a s hv =>
 Eff.eff (opk_gcall s.ag hd hj hl (fun hg => r_call hf hn hb' (hx.map s.ag hg) rfl) (fun hg => hv.1 (hp hg)) fun a' w' hA _ hE => k w' a' ⟨hA,Chg.refl _ _,fun b hb => (s.box b hb).ext hE,s.nd,by simp,by simp⟩ (hv.2 w' hE))
theorem gCo [Eff P ops Q X] (is : List Nat) {x : Operand} {f : FuncId} {xs : List Operand} {ts : Array TypeId} {vs : List Value} {fst cap args : Array Value} {bx : List Nat} {R : Value → World → Prop} (hf : Body P f) (hc : ∀ a,Ag n a L → a.eval x = .func (.func f) fst cap)
  (k : ∀ v w',Go n ((d,v) :: L) w' w' [] (keepB is bs) [] (R v w') (X r)) (hx : opvs L xs = some vs := by rfl) (ha : fst ++ vs.toArray ++ cap = args := by rfl) (hb : (pickB is bs).map (·.1) = bx := by rfl) (hi : distinct is = true := by rfl) (hd : Nat.blt d n = true := by rfl) :
  Go n L wa w G bs N (CallK P f args w bx R) (X (⟨some d,.call { callee := .value x,args := xs.toArray,argTypes := ts },ty,pos,after,none⟩ :: r)) := by
 subst ha
 exact gCr is (fun _ h => r_callO hf (h.opvs hx) (hc _ h)) k hb hi hd
theorem gRr [Eff P ops Q X] (is : List Nat) {m : Sem Value} {bx : List Nat} {R : Value → World → Prop} (hr : ∀ a,Ag n a L → ∀ v w',m.run P w = .ok v w' → (execOp a.eval ⟨some d,op,ty,pos,after,none⟩).run P w = .ok (.value v) w')
  (k : ∀ v w',Go n ((d,v) :: L) w' w' [] (keepB is bs) [] (R v w') (X r)) (hb : (pickB is bs).map (·.1) = bx) (hi : distinct is = true) (hd : Nat.blt d n = true) : Go n L wa w G bs N (RunK P m w bx R) (X (⟨some d,op,ty,pos,after,none⟩ :: r)) := fun a s hv =>
 Eff.eff (opk_run s.ag hd (hr a s.ag) hv fun a' v w' hA _ hnt _ hR => k v w' a' (s.behind is hi (hb ▸ hnt) hA) hR)
theorem gR0 [Eff P ops Q X] (is : List Nat) {m : Sem Value} {bx : List Nat} {R : Value → World → Prop} (hr : ∀ {ρ : Operand → Value} {v : Value} {w' : World},m.run P w = .ok v w' → (execOp ρ ⟨some d,op,ty,pos,after,none⟩).run P w = .ok (.value v) w')
  (k : ∀ v w',Go n ((d,v) :: L) w' w' [] (keepB is bs) [] (R v w') (X r)) (hb : (pickB is bs).map (·.1) = bx := by rfl) (hi : distinct is = true := by rfl) (hd : Nat.blt d n = true := by rfl) : Go n L wa w G bs N (RunK P m w bx R) (X (⟨some d,op,ty,pos,after,none⟩ :: r)) := gRr is (fun _ _ _ _ h => hr h) k hb hi hd
theorem gR2 [Eff P ops Q X] (is : List Nat) {x y : Operand} {u z : Value} {m : Sem Value} {bx : List Nat} {R : Value → World → Prop} (hr : ∀ {ρ : Operand → Value} {v : Value} {w' : World},ρ x = u → ρ y = z → m.run P w = .ok v w' → (execOp ρ ⟨some d,op,ty,pos,after,none⟩).run P w = .ok (.value v) w')
  (k : ∀ v w',Go n ((d,v) :: L) w' w' [] (keepB is bs) [] (R v w') (X r)) (hx : opv L x = some u := by rfl) (hy : opv L y = some z := by rfl) (hb : (pickB is bs).map (·.1) = bx := by rfl) (hi : distinct is = true := by rfl) (hd : Nat.blt d n = true := by rfl) : Go n L wa w G bs N (RunK P m w bx R) (X (⟨some d,op,ty,pos,after,none⟩ :: r)) := gRr is (fun _ hA _ _ h => hr (hA.opv hx) (hA.opv hy) h) k hb hi hd
theorem gN1 [Eff P ops Q X] (is : List Nat) {x : Operand} {u : Value} {m : Sem Value} {bx : List Nat} {R : World → Prop} (hr : ∀ {ρ : Operand → Value} {w' : World},ρ x = u → m.run P w = .ok (.tuple #[]) w' → (execOp ρ ⟨none,op,ty,pos,after,none⟩).run P w = .ok (.value (.tuple #[])) w')
  (k : ∀ w',Go n L w' w' [] (keepB is bs) [] (R w') (X r)) (hx : opv L x = some u := by rfl) (hb : (pickB is bs).map (·.1) = bx := by rfl) (hi : distinct is = true := by rfl) : Go n L wa w G bs N (RunN P m w bx R) (X (⟨none,op,ty,pos,after,none⟩ :: r)) := fun a s hv =>
 Eff.eff (opk_runN s.ag (fun w' h => hr (s.ag.opv hx) h) hv fun a' w' hA hnt _ hR => k w' a' (s.behind is hi (hb ▸ hnt) hA) hR)
theorem set_map_fst (bs : List BX) (i : Nat) {B : Nat} {T T' : TypeId} {cs cs' : List Value} (hb : bs[i]? = some (B,T,cs)) : (bs.set i (B,T',cs')).map (·.1) = bs.map (·.1) := by
 apply List.ext_getElem?
 intro j
 rw [List.getElem?_map,List.getElem?_map,List.getElem?_set]
 split
 ·rename_i e
  subst e
  rw [if_pos (List.getElem?_eq_some_iff.1 hb).1,hb]; rfl
 ·rfl
theorem St.stored {w' : World} {a' : Act} {G' : List Nat} {B : Nat} {T : TypeId} {cs cs' : List Value} (s : St n a w L wa G bs N) (i : Nat) (hb : bs[i]? = some (B,T,cs)) (hC : Chg [B] w w') (hB : Box w' B T cs') (hG : Chg G' wa w') (hA : Ag n a' L) : St n a' w' L wa G' (bs.set i (B,T,cs')) N := by
 refine ⟨hA,hG,fun b hm => ?_,by rw [set_map_fst bs i hb]; exact s.nd,fun B' hB' => (s.new B' hB').up hC.size,s.nnd⟩
 obtain ⟨j,hj⟩ := List.getElem?_of_mem hm
 rw [List.getElem?_set] at hj
 split at hj
 ·rename_i e
  subst e
  rw [if_pos (List.getElem?_eq_some_iff.1 hb).1] at hj
  cases hj
  exact hB
 ·rename_i hne
  refine (s.box b (List.mem_of_getElem? hj)).keep hC fun hmB => ?_
  have e1 : b.1 = B := by simpa using hmB
  have h1 : (bs.map (·.1))[j]? = some B := by rw [List.getElem?_map,hj,← e1]; rfl
  have h2 : (bs.map (·.1))[i]? = some B := by rw [List.getElem?_map,hb]; rfl
  obtain ⟨hjl,h1⟩ := List.getElem?_eq_some_iff.1 h1
  obtain ⟨hil,h2⟩ := List.getElem?_eq_some_iff.1 h2
  exact hne ((List.getElem_inj s.nd).1 (h2.trans h1.symm))
section store
variable {t : TypeId} {x y : Operand} {B o : Nat} {T : TypeId} {cs vs : List Value} {z : Value} {bytes : Nat}
theorem gsR [Eff P ops Q X] (i : Nat) {G' : List Nat} (hG : ∀ {a : Act} {w' : World},St n a w L wa G bs N → Chg [B] w w' → Chg G' wa w') (ht : TI P t z vs.length bytes)
  (k : ∀ w',Go n L wa w' G' (bs.set i (B,T,putAt cs o vs)) N V (X r)) (hx : opv L x = some (.pointer (some ⟨B,o,none⟩))) (hy : opv L y = some v) (hv : v.cells = vs.toArray) (hb : bs[i]? = some (B,T,cs)) (hl : Nat.ble (o + vs.length) cs.length = true) (h1 : vs.all (·.oneCell') = true) : Go n L wa w G bs N V (X (⟨none,.store t x y,ty,pos,after,none⟩ :: r)) := fun a s hV =>
 Eff.eff (opk_store s.ag (s.bx i hb) (r_store (s.ag.opv hx) (s.ag.opv hy) hv ht (s.bx i hb) hl (ones_all vs h1)) fun a' w' hC hB hA => k w' a' (s.stored i hb hC hB (hG s hC) hA) hV)
theorem wn [Eff P ops Q X] (i j : Nat) (ht : TI P t z vs.length bytes) (k : ∀ w',Go n L wa w' G (bs.set i (B,T,putAt cs o vs)) N V (X r)) (hx : opv L x = some (.pointer (some ⟨B,o,none⟩)) := by rfl) (hy : opv L y = some v := by rfl) (hv : v.cells = vs.toArray := by rfl) (hb : bs[i]? = some (B,T,cs) := by rfl) (hj : N[j]? = some B := by rfl) (hl : Nat.ble (o + vs.length) cs.length = true := by rfl) (h1 : vs.all (·.oneCell') = true := by rfl) :
  Go n L wa w G bs N V (X (⟨none,.store t x y,ty,pos,after,none⟩ :: r)) := gsR i (fun s hC => s.chg.storeNew (s.new B (List.mem_of_getElem? hj)) hC) ht k hx hy hv hb hl h1
theorem wo [Eff P ops Q X] (i : Nat) (ht : TI P t z vs.length bytes) (k : ∀ w',Go n L wa w' (B :: G) (bs.set i (B,T,putAt cs o vs)) N V (X r)) (hx : opv L x = some (.pointer (some ⟨B,o,none⟩)) := by rfl) (hy : opv L y = some v := by rfl) (hv : v.cells = vs.toArray := by rfl) (hb : bs[i]? = some (B,T,cs) := by rfl) (hl : Nat.ble (o + vs.length) cs.length = true := by rfl) (h1 : vs.all (·.oneCell') = true := by rfl) :
  Go n L wa w G bs N V (X (⟨none,.store t x y,ty,pos,after,none⟩ :: r)) := gsR i (fun s hC => s.chg.storeOld hC) ht k hx hy hv hb hl h1
theorem wx [Eff P ops Q X] (is : List Nat) {p : Addr} {m : Nat} {bx : List Nat} {V : Nat → Nat → TypeId → List Value → World → Prop} (ht : TI P t z vs.length bytes) (k : ∀ B o T cs w',Go n L w' w' [] (keepB is bs) [] (V B o T cs w') (X r)) (hx : opv L x = some (.pointer (some p)) := by rfl) (hy : opv L y = some v := by rfl) (hv : v.cells = vs.toArray := by rfl) (hm : vs.length = m := by rfl) (h1 : vs.all (·.oneCell') = true := by rfl) (hb : (pickB is bs).map (·.1) = bx := by rfl) (hi : distinct is = true := by rfl) :
  Go n L wa w G bs N (∃ (B o : Nat) (T : TypeId) (cs : List Value),p = ⟨B,o,none⟩ ∧ Box w B T cs ∧ o + m ≤ cs.length ∧ (∀ b ∈ bx,b ≠ B) ∧ ∀ w' : World,Chg [B] w w' → Box w' B T (putAt cs o vs) → V B o T cs w') (X (⟨none,.store t x y,ty,pos,after,none⟩ :: r)) := fun a s ⟨B,o,T,cs,e1,e2,e3,e4,e5⟩ => by
 subst e1; subst hm
 refine Eff.eff (opk_store s.ag e2 (r_store (s.ag.opv hx) (s.ag.opv hy) hv ht e2 (Nat.ble_eq_true_of_le e3) (ones_all vs h1)) fun a' w' hC hB hA => k B o T cs w' a' ⟨hA,Chg.refl _ _,fun b hm => ?_,keepB_nd s.nd hi,by simp,by simp⟩ (e5 w' hC hB))
 exact (s.box b (keepB_in hm).1).keep hC fun h => e4 b.1 (by rw [← hb]; exact (keepB_in hm).2) (by simpa using h)
end store
end effs
theorem St.ne (s : St n a w L wa G bs N) (i j : Nat) {B D : Nat} (hi : (bs[i]?).map (·.1) = some B := by rfl) (hj : (bs[j]?).map (·.1) = some D := by rfl) (h : Nat.beq i j = false := by rfl) : B ≠ D := fun e => by
 subst e
 rw [← List.getElem?_map] at hi hj
 obtain ⟨h1,e1⟩ := List.getElem?_eq_some_iff.1 hi
 obtain ⟨h2,e2⟩ := List.getElem?_eq_some_iff.1 hj
 have := (List.getElem_inj s.nd).1 (e1.trans e2.symm)
 subst this
 rw [Nat.beq_refl] at h; cases h
theorem dT {p : Prop} [Decidable p] (h : decide p = true) : p := of_decide_eq_true h
theorem dF {p : Prop} [Decidable p] (h : decide p = false) : ¬ p := of_decide_eq_false h
theorem nT {x : Bool} (h : (!x) = true) : x = false := b_not_t h
theorem nF {x : Bool} (h : (!x) = false) : x = true := b_not_f h
theorem oT {x y : Bool} (h : (x || y) = true) : x = true ∨ y = true := b_or_t h
theorem oF {x y : Bool} (h : (x || y) = false) : x = false ∧ y = false := b_or_f h
theorem aT {x y : Bool} (h : (x && y) = true) : x = true ∧ y = true := b_and_t h
theorem aF {x y : Bool} (h : (x && y) = false) : x = false ∨ y = false := b_and_f h
theorem geT {D : List (List Nat)} {e : Nat} {Vs : List (Nat × RS)} (k : ∀ w',Go n L wa w' G bs N V K) : Go n L wa w G bs N V (SeqE P ops D Vs e K [] []) := fun a s hv w' hE _ => k w' a (s.ext hE) hv
def BoxL (w : World) : List BX → Prop
 |[] => True
 |b :: r => Box w b.1 b.2.1 b.2.2 ∧ BoxL w r
theorem BoxL.mem {w : World} : ∀ {bs : List BX},BoxL w bs → ∀ b ∈ bs,Box w b.1 b.2.1 b.2.2
 |[],_,b,h => by cases h
 |_ :: _,h,b,hm => by
  rcases List.mem_cons.1 hm with rfl | hm
  ·exact h.1
  ·exact h.2.mem b hm
def NewL (wa w : World) : List Nat → Prop
 |[] => True
 |b :: r => New wa b w ∧ NewL wa w r
theorem NewL.mem {wa w : World} : ∀ {N : List Nat},NewL wa w N → ∀ b ∈ N,New wa b w
 |[],_,b,h => by cases h
 |_ :: _,h,b,hm => by
  rcases List.mem_cons.1 hm with rfl | hm
  ·exact h.1
  ·exact h.2.mem b hm
theorem gK {bs : List BX} {N : List Nat} (hA : Ag n a L) (hC : Chg G wa w) (hb : BoxL w bs) (hd : (bs.map (·.1)).Nodup) (hn : NewL wa w N) (hnn : N.Nodup) (hv : V) (k : Go n L wa w G bs N V C) : C a w := k a ⟨hA,hC,hb.mem,hd,hn.mem,hnn⟩ hv
theorem gi {x : Operand} {c e : Code} {b : Bool} {p q V1 V2 : Prop} (h1 : b = true → p) (h2 : b = false → q) (k1 : Go n L wa w G bs N V1 (c.wp P Q)) (k2 : Go n L wa w G bs N V2 (e.wp P Q)) (hx : opv L x = some (.bool b) := by rfl) : Go n L wa w G bs N ((p → V1) ∧ (q → V2)) ((Code.cond x c e).wp P Q) := fun a s hv =>
 wp_cond_split (s.ag.opv hx) (fun h => k1 a s (hv.1 (h1 h))) (fun h => k2 a s (hv.2 (h2 h)))
def lkS (L : List (Nat × Value)) : List (Nat × Value) → List (Option Value)
 |[] => []
 |(d,_) :: r => lookupL d L :: lkS L r
def smS : List (Nat × Value) → List (Option Value)
 |[] => []
 |(_,v) :: r => some v :: smS r
theorem subS {L : List (Nat × Value)} : ∀ L',lkS L L' = smS L' → SubL L L'
 |[],_ => trivial
 |(_,_) :: r,h => by
  injection h with h1 h2
  exact ⟨h1,subS r h2⟩
def Mt (n : Nat) (L : List (Nat × Value)) (bs : List BX) (a : Act) (w : World) : Prop := Ag n a L ∧ ∀ b ∈ bs,Box w b.1 b.2.1 b.2.2
theorem St.mt {L' : List (Nat × Value)} {bs' : List BX} (s : St n a w L wa G bs N) (is : List Nat) (hL : lkS L L' = smS L') (hb : pickB is bs = bs') : Mt n L' bs' a w := ⟨s.ag.keep _ (subS _ hL),fun b hm => s.box b (pickB_mem (is := is) (by rw [hb]; exact hm))⟩
theorem Mt.st {L' : List (Nat × Value)} {bs' : List BX} {a' : Act} {w' : World} (h : Mt n L' bs' a' w') (hn : (bs'.map (·.1)).Nodup) : St n a' w' L' w' [] bs' [] := ⟨h.1,Chg.refl _ _,h.2,hn,by simp,by simp⟩
theorem appS {L : List (Nat × Value)} : ∀ {A B : List (Nat × Value)},lkS L A = smS A → lkS L B = smS B → lkS L (A ++ B) = smS (A ++ B)
 |[],_,_,h => h
 |(_,_) :: A,_,h,k => by
  injection h with h1 h2
  rw [List.cons_append,lkS,smS,h1,appS h2 k]
def Pm (n : Nat) (L : List (Nat × Value)) (w0 : World) (a : Act) (w : World) : Prop := Ag n a L ∧ w = w0
theorem gp {x : Operand} {c e : Code} {b : Bool} (gf Lk : List (Nat × Value)) (k1 : b = true → Go n L wa w G bs N True (c.wp P (Exit.then (Pm n (gf ++ Lk) w) Q))) (k2 : b = false → Go n L wa w G bs N True (e.wp P (Exit.then (Pm n (gf ++ Lk) w) Q))) (k : Go n (gf ++ Lk) wa w G bs N V (Q .normal)) (hx : opv L x = some (.bool b) := by rfl) (_ : lkS L Lk = smS Lk := by rfl) : Go n L wa w G bs N V ((Code.cond x c e).wp P Q) := fun a s hv =>
 wp_meet (Pm n (gf ++ Lk) w) (wp_cond_split (s.ag.opv hx) (fun h => k1 h a s trivial) (fun h => k2 h a s trivial)) fun a' w' ⟨hA,e⟩ => by subst e; exact k a' (s.act hA) hv
theorem gp' {gf Lk : List (Nat × Value)} (h : SubL L gf) (hL : lkS L Lk = smS Lk := by kernel_rfl) : Go n L wa w G bs N True (Exit.then (Pm n (gf ++ Lk) w) Q .normal) := fun a s _ => ⟨s.ag.keep _ (by
 have key : ∀ M,SubL L M → SubL L (M ++ Lk) := fun M => by
  induction M with
  |nil => exact fun _ => subS _ hL
  |cons p r ih => exact fun h => ⟨h.1,ih h.2⟩
 exact key gf h),rfl⟩
theorem m0 {J : World → Prop} {c : Code} {V1 : Prop} {Vb : World → Prop} (gf : List (Nat × Value)) (Lk : List (Nat × Value)) (bf : List BX) (Bk : List BX) (is : List Nat)
  (k1 : Go n L wa w G bs N V1 (c.wp P (Exit.then (fun a w => Mt n (gf ++ Lk) (bf ++ Bk) a w ∧ J w) Q))) (k : ∀ w',J w' → Go n (gf ++ Lk) w' w' [] (bf ++ Bk) [] (Vb w') (Q .normal))
  (_ : lkS L Lk = smS Lk := by rfl) (hn : ((bf ++ Bk).map (·.1)) = (pickB is bs).map (·.1) := by exact rfl) (hi : distinct is = true := by rfl) : Go n L wa w G bs N (V1 ∧ ∀ w',J w' → Vb w') (c.wp P Q) := fun a s hv =>
 wp_meet _ (k1 a s hv.1) fun a' w' ⟨h1,h2⟩ => by
  refine k  w' h2 a' (h1.st ?_) (hv.2  w' h2)
  rw [hn]
  exact pickB_nd s.nd (distinct_nd hi)
theorem j0  {J : World → Prop} {gf : List (Nat × Value)} {bf : List BX} {Lk : List (Nat × Value)} {Bk : List BX} (is : List Nat) (hL : lkS L (gf ++ Lk) = smS (gf ++ Lk) := by kernel_rfl) (hb : pickB is bs = (bf ++ Bk) := by kernel_rfl) : Go n L wa w G bs N (J w) (Exit.then (fun a w => Mt n (gf ++ Lk) (bf ++ Bk) a w ∧ J w) Q .normal) := fun _ s hv => ⟨s.mt is hL hb,hv⟩
theorem l1 {α0 : Type}  {z0 : α0} {J : α0 → World → Prop} {c : Code} {Vb : α0 → World → Prop} (mu : α0 → World → Nat) (gf : α0 → List (Nat × Value)) (Lk : List (Nat × Value)) (bf : α0 → List BX) (Bk : List BX) (is : List Nat)
  (k : ∀ (x0 : α0) w',J x0 w' → Go n (gf x0 ++ Lk) w' w' [] (bf x0 ++ Bk) [] (Vb x0 w') (c.wp P (Exit.then (fun a w => ∃ (y0 : α0),Mt n (gf y0 ++ Lk) (bf y0 ++ Bk) a w ∧ J y0 w ∧ mu y0 w < mu x0 w') Q)))
  (hk : lkS L Lk = smS Lk := by rfl) (hb : pickB is bs = (bf z0 ++ Bk) := by rfl) (hL : lkS L (gf z0) = smS (gf z0) := by kernel_rfl) (hi : distinct is = true := by rfl) (hn : ∀ (x0 : α0),((bf x0).map (·.1)) = ((bf z0)).map (·.1) := by exact fun _ => rfl) : Go n L wa w G bs N (J z0 w ∧ ∀ (x0 : α0) w',J x0 w' → Vb x0 w') ((Code.loop c).wp P Q) := fun a s hv =>
 wp_loop_st (σ := α0 × World) (fun s a w => Mt n (gf s.1 ++ Lk) (bf s.1 ++ Bk) a w ∧ w = s.2 ∧ J s.1 w) (fun s => mu s.1 s.2) (z0,w) ⟨s.mt is (appS hL hk) hb,rfl,hv.1⟩ fun s' a' w' ⟨h1,h2,h3⟩ => by
  obtain ⟨x0,w1⟩ := s'
  subst h2
  refine wp_mono (k x0 w' h3 a' (h1.st ?_) (hv.2 x0 w' h3)) fun e a2 w2 hq => ?_
  ·rw [List.map_append,hn x0,← List.map_append,← hb]
   exact pickB_nd s.nd (distinct_nd hi)
  ·cases e <;> first | exact hq | (obtain ⟨y0,g1,g2,g3⟩ := hq; exact ⟨(y0,w2),⟨g1,rfl,g2⟩,g3⟩)
theorem k1 {α0 : Type}  {z0 : α0} {J : α0 → World → Prop} {gf : α0 → List (Nat × Value)} {bf : α0 → List BX} {Lk : List (Nat × Value)} {Bk : List BX} {mu : α0 → World → Nat} {q : Nat} (is : List Nat) (hL : lkS L (gf z0 ++ Lk) = smS (gf z0 ++ Lk) := by kernel_rfl) (hb : pickB is bs = (bf z0 ++ Bk) := by kernel_rfl) : Go n L wa w G bs N (J z0 w ∧ mu z0 w < q) (Exit.then (fun a w => ∃ (y0 : α0),Mt n (gf y0 ++ Lk) (bf y0 ++ Bk) a w ∧ J y0 w ∧ mu y0 w < q) Q .normal) := fun _ s hv => ⟨z0,s.mt is hL hb,hv.1,hv.2⟩
theorem m1 {α0 : Type} {J : α0 → World → Prop} {c : Code} {V1 : Prop} {Vb : α0 → World → Prop} (gf : α0 → List (Nat × Value)) (Lk : List (Nat × Value)) (bf : α0 → List BX) (Bk : List BX) (is : List Nat)
  (k1 : Go n L wa w G bs N V1 (c.wp P (Exit.then (fun a w => ∃ (y0 : α0),Mt n (gf y0 ++ Lk) (bf y0 ++ Bk) a w ∧ J y0 w) Q))) (k : ∀ (x0 : α0) w',J x0 w' → Go n (gf x0 ++ Lk) w' w' [] (bf x0 ++ Bk) [] (Vb x0 w') (Q .normal))
  (_ : lkS L Lk = smS Lk := by rfl) (hn : ∀ (x0 : α0),((bf x0 ++ Bk).map (·.1)) = (pickB is bs).map (·.1) := by exact fun _ => rfl) (hi : distinct is = true := by rfl) : Go n L wa w G bs N (V1 ∧ ∀ (x0 : α0) w',J x0 w' → Vb x0 w') (c.wp P Q) := fun a s hv =>
 wp_meet _ (k1 a s hv.1) fun a' w' ⟨x0,h1,h2⟩ => by
  refine k x0 w' h2 a' (h1.st ?_) (hv.2 x0 w' h2)
  rw [hn x0]
  exact pickB_nd s.nd (distinct_nd hi)
theorem j1 {α0 : Type}  {z0 : α0} {J : α0 → World → Prop} {gf : α0 → List (Nat × Value)} {bf : α0 → List BX} {Lk : List (Nat × Value)} {Bk : List BX} (is : List Nat) (hL : lkS L (gf z0 ++ Lk) = smS (gf z0 ++ Lk) := by kernel_rfl) (hb : pickB is bs = (bf z0 ++ Bk) := by kernel_rfl) : Go n L wa w G bs N (J z0 w) (Exit.then (fun a w => ∃ (y0 : α0),Mt n (gf y0 ++ Lk) (bf y0 ++ Bk) a w ∧ J y0 w) Q .normal) := fun _ s hv => ⟨z0,s.mt is hL hb,hv⟩
theorem l2 {α0 α1 : Type}  {z0 : α0} {z1 : α1} {J : α0 → α1 → World → Prop} {c : Code} {Vb : α0 → α1 → World → Prop} (mu : α0 → α1 → World → Nat) (gf : α0 → α1 → List (Nat × Value)) (Lk : List (Nat × Value)) (bf : α0 → α1 → List BX) (Bk : List BX) (is : List Nat)
  (k : ∀ (x0 : α0) (x1 : α1) w',J x0 x1 w' → Go n (gf x0 x1 ++ Lk) w' w' [] (bf x0 x1 ++ Bk) [] (Vb x0 x1 w') (c.wp P (Exit.then (fun a w => ∃ (y0 : α0) (y1 : α1),Mt n (gf y0 y1 ++ Lk) (bf y0 y1 ++ Bk) a w ∧ J y0 y1 w ∧ mu y0 y1 w < mu x0 x1 w') Q)))
  (hk : lkS L Lk = smS Lk := by rfl) (hb : pickB is bs = (bf z0 z1 ++ Bk) := by rfl) (hL : lkS L (gf z0 z1) = smS (gf z0 z1) := by kernel_rfl) (hi : distinct is = true := by rfl) (hn : ∀ (x0 : α0) (x1 : α1),((bf x0 x1).map (·.1)) = ((bf z0 z1)).map (·.1) := by exact fun _ _ => rfl) : Go n L wa w G bs N (J z0 z1 w ∧ ∀ (x0 : α0) (x1 : α1) w',J x0 x1 w' → Vb x0 x1 w') ((Code.loop c).wp P Q) := fun a s hv =>
 wp_loop_st (σ := α0 × α1 × World) (fun s a w => Mt n (gf s.1 s.2.1 ++ Lk) (bf s.1 s.2.1 ++ Bk) a w ∧ w = s.2.2 ∧ J s.1 s.2.1 w) (fun s => mu s.1 s.2.1 s.2.2) (z0,z1,w) ⟨s.mt is (appS hL hk) hb,rfl,hv.1⟩ fun s' a' w' ⟨h1,h2,h3⟩ => by
  obtain ⟨x0,x1,w1⟩ := s'
  subst h2
  refine wp_mono (k x0 x1 w' h3 a' (h1.st ?_) (hv.2 x0 x1 w' h3)) fun e a2 w2 hq => ?_
  ·rw [List.map_append,hn x0 x1,← List.map_append,← hb]
   exact pickB_nd s.nd (distinct_nd hi)
  ·cases e <;> first | exact hq | (obtain ⟨y0,y1,g1,g2,g3⟩ := hq; exact ⟨(y0,y1,w2),⟨g1,rfl,g2⟩,g3⟩)
theorem k2 {α0 α1 : Type}  {z0 : α0} {z1 : α1} {J : α0 → α1 → World → Prop} {gf : α0 → α1 → List (Nat × Value)} {bf : α0 → α1 → List BX} {Lk : List (Nat × Value)} {Bk : List BX} {mu : α0 → α1 → World → Nat} {q : Nat} (is : List Nat) (hL : lkS L (gf z0 z1 ++ Lk) = smS (gf z0 z1 ++ Lk) := by kernel_rfl) (hb : pickB is bs = (bf z0 z1 ++ Bk) := by kernel_rfl) : Go n L wa w G bs N (J z0 z1 w ∧ mu z0 z1 w < q) (Exit.then (fun a w => ∃ (y0 : α0) (y1 : α1),Mt n (gf y0 y1 ++ Lk) (bf y0 y1 ++ Bk) a w ∧ J y0 y1 w ∧ mu y0 y1 w < q) Q .normal) := fun _ s hv => ⟨z0,z1,s.mt is hL hb,hv.1,hv.2⟩
theorem m2 {α0 α1 : Type} {J : α0 → α1 → World → Prop} {c : Code} {V1 : Prop} {Vb : α0 → α1 → World → Prop} (gf : α0 → α1 → List (Nat × Value)) (Lk : List (Nat × Value)) (bf : α0 → α1 → List BX) (Bk : List BX) (is : List Nat)
  (k1 : Go n L wa w G bs N V1 (c.wp P (Exit.then (fun a w => ∃ (y0 : α0) (y1 : α1),Mt n (gf y0 y1 ++ Lk) (bf y0 y1 ++ Bk) a w ∧ J y0 y1 w) Q))) (k : ∀ (x0 : α0) (x1 : α1) w',J x0 x1 w' → Go n (gf x0 x1 ++ Lk) w' w' [] (bf x0 x1 ++ Bk) [] (Vb x0 x1 w') (Q .normal))
  (_ : lkS L Lk = smS Lk := by rfl) (hn : ∀ (x0 : α0) (x1 : α1),((bf x0 x1 ++ Bk).map (·.1)) = (pickB is bs).map (·.1) := by exact fun _ _ => rfl) (hi : distinct is = true := by rfl) : Go n L wa w G bs N (V1 ∧ ∀ (x0 : α0) (x1 : α1) w',J x0 x1 w' → Vb x0 x1 w') (c.wp P Q) := fun a s hv =>
 wp_meet _ (k1 a s hv.1) fun a' w' ⟨x0,x1,h1,h2⟩ => by
  refine k x0 x1 w' h2 a' (h1.st ?_) (hv.2 x0 x1 w' h2)
  rw [hn x0 x1]
  exact pickB_nd s.nd (distinct_nd hi)
theorem j2 {α0 α1 : Type}  {z0 : α0} {z1 : α1} {J : α0 → α1 → World → Prop} {gf : α0 → α1 → List (Nat × Value)} {bf : α0 → α1 → List BX} {Lk : List (Nat × Value)} {Bk : List BX} (is : List Nat) (hL : lkS L (gf z0 z1 ++ Lk) = smS (gf z0 z1 ++ Lk) := by kernel_rfl) (hb : pickB is bs = (bf z0 z1 ++ Bk) := by kernel_rfl) : Go n L wa w G bs N (J z0 z1 w) (Exit.then (fun a w => ∃ (y0 : α0) (y1 : α1),Mt n (gf y0 y1 ++ Lk) (bf y0 y1 ++ Bk) a w ∧ J y0 y1 w) Q .normal) := fun _ s hv => ⟨z0,z1,s.mt is hL hb,hv⟩
theorem l3 {α0 α1 α2 : Type}  {z0 : α0} {z1 : α1} {z2 : α2} {J : α0 → α1 → α2 → World → Prop} {c : Code} {Vb : α0 → α1 → α2 → World → Prop} (mu : α0 → α1 → α2 → World → Nat) (gf : α0 → α1 → α2 → List (Nat × Value)) (Lk : List (Nat × Value)) (bf : α0 → α1 → α2 → List BX) (Bk : List BX) (is : List Nat)
  (k : ∀ (x0 : α0) (x1 : α1) (x2 : α2) w',J x0 x1 x2 w' → Go n (gf x0 x1 x2 ++ Lk) w' w' [] (bf x0 x1 x2 ++ Bk) [] (Vb x0 x1 x2 w') (c.wp P (Exit.then (fun a w => ∃ (y0 : α0) (y1 : α1) (y2 : α2),Mt n (gf y0 y1 y2 ++ Lk) (bf y0 y1 y2 ++ Bk) a w ∧ J y0 y1 y2 w ∧ mu y0 y1 y2 w < mu x0 x1 x2 w') Q)))
  (hk : lkS L Lk = smS Lk := by rfl) (hb : pickB is bs = (bf z0 z1 z2 ++ Bk) := by rfl) (hL : lkS L (gf z0 z1 z2) = smS (gf z0 z1 z2) := by kernel_rfl) (hi : distinct is = true := by rfl) (hn : ∀ (x0 : α0) (x1 : α1) (x2 : α2),((bf x0 x1 x2).map (·.1)) = ((bf z0 z1 z2)).map (·.1) := by exact fun _ _ _ => rfl) : Go n L wa w G bs N (J z0 z1 z2 w ∧ ∀ (x0 : α0) (x1 : α1) (x2 : α2) w',J x0 x1 x2 w' → Vb x0 x1 x2 w') ((Code.loop c).wp P Q) := fun a s hv =>
 wp_loop_st (σ := α0 × α1 × α2 × World) (fun s a w => Mt n (gf s.1 s.2.1 s.2.2.1 ++ Lk) (bf s.1 s.2.1 s.2.2.1 ++ Bk) a w ∧ w = s.2.2.2 ∧ J s.1 s.2.1 s.2.2.1 w) (fun s => mu s.1 s.2.1 s.2.2.1 s.2.2.2) (z0,z1,z2,w) ⟨s.mt is (appS hL hk) hb,rfl,hv.1⟩ fun s' a' w' ⟨h1,h2,h3⟩ => by
  obtain ⟨x0,x1,x2,w1⟩ := s'
  subst h2
  refine wp_mono (k x0 x1 x2 w' h3 a' (h1.st ?_) (hv.2 x0 x1 x2 w' h3)) fun e a2 w2 hq => ?_
  ·rw [List.map_append,hn x0 x1 x2,← List.map_append,← hb]
   exact pickB_nd s.nd (distinct_nd hi)
  ·cases e <;> first | exact hq | (obtain ⟨y0,y1,y2,g1,g2,g3⟩ := hq; exact ⟨(y0,y1,y2,w2),⟨g1,rfl,g2⟩,g3⟩)
theorem k3 {α0 α1 α2 : Type}  {z0 : α0} {z1 : α1} {z2 : α2} {J : α0 → α1 → α2 → World → Prop} {gf : α0 → α1 → α2 → List (Nat × Value)} {bf : α0 → α1 → α2 → List BX} {Lk : List (Nat × Value)} {Bk : List BX} {mu : α0 → α1 → α2 → World → Nat} {q : Nat} (is : List Nat) (hL : lkS L (gf z0 z1 z2 ++ Lk) = smS (gf z0 z1 z2 ++ Lk) := by kernel_rfl) (hb : pickB is bs = (bf z0 z1 z2 ++ Bk) := by kernel_rfl) : Go n L wa w G bs N (J z0 z1 z2 w ∧ mu z0 z1 z2 w < q) (Exit.then (fun a w => ∃ (y0 : α0) (y1 : α1) (y2 : α2),Mt n (gf y0 y1 y2 ++ Lk) (bf y0 y1 y2 ++ Bk) a w ∧ J y0 y1 y2 w ∧ mu y0 y1 y2 w < q) Q .normal) := fun _ s hv => ⟨z0,z1,z2,s.mt is hL hb,hv.1,hv.2⟩
theorem m3 {α0 α1 α2 : Type} {J : α0 → α1 → α2 → World → Prop} {c : Code} {V1 : Prop} {Vb : α0 → α1 → α2 → World → Prop} (gf : α0 → α1 → α2 → List (Nat × Value)) (Lk : List (Nat × Value)) (bf : α0 → α1 → α2 → List BX) (Bk : List BX) (is : List Nat)
  (k1 : Go n L wa w G bs N V1 (c.wp P (Exit.then (fun a w => ∃ (y0 : α0) (y1 : α1) (y2 : α2),Mt n (gf y0 y1 y2 ++ Lk) (bf y0 y1 y2 ++ Bk) a w ∧ J y0 y1 y2 w) Q))) (k : ∀ (x0 : α0) (x1 : α1) (x2 : α2) w',J x0 x1 x2 w' → Go n (gf x0 x1 x2 ++ Lk) w' w' [] (bf x0 x1 x2 ++ Bk) [] (Vb x0 x1 x2 w') (Q .normal))
  (_ : lkS L Lk = smS Lk := by rfl) (hn : ∀ (x0 : α0) (x1 : α1) (x2 : α2),((bf x0 x1 x2 ++ Bk).map (·.1)) = (pickB is bs).map (·.1) := by exact fun _ _ _ => rfl) (hi : distinct is = true := by rfl) : Go n L wa w G bs N (V1 ∧ ∀ (x0 : α0) (x1 : α1) (x2 : α2) w',J x0 x1 x2 w' → Vb x0 x1 x2 w') (c.wp P Q) := fun a s hv =>
 wp_meet _ (k1 a s hv.1) fun a' w' ⟨x0,x1,x2,h1,h2⟩ => by
  refine k x0 x1 x2 w' h2 a' (h1.st ?_) (hv.2 x0 x1 x2 w' h2)
  rw [hn x0 x1 x2]
  exact pickB_nd s.nd (distinct_nd hi)
theorem j3 {α0 α1 α2 : Type}  {z0 : α0} {z1 : α1} {z2 : α2} {J : α0 → α1 → α2 → World → Prop} {gf : α0 → α1 → α2 → List (Nat × Value)} {bf : α0 → α1 → α2 → List BX} {Lk : List (Nat × Value)} {Bk : List BX} (is : List Nat) (hL : lkS L (gf z0 z1 z2 ++ Lk) = smS (gf z0 z1 z2 ++ Lk) := by kernel_rfl) (hb : pickB is bs = (bf z0 z1 z2 ++ Bk) := by kernel_rfl) : Go n L wa w G bs N (J z0 z1 z2 w) (Exit.then (fun a w => ∃ (y0 : α0) (y1 : α1) (y2 : α2),Mt n (gf y0 y1 y2 ++ Lk) (bf y0 y1 y2 ++ Bk) a w ∧ J y0 y1 y2 w) Q .normal) := fun _ s hv => ⟨z0,z1,z2,s.mt is hL hb,hv⟩
section told
variable {D : List (List Nat)} {Vs : List (Nat × RS)} {e : Nat} {F : List (Nat × (World → Prop))} {d : Nat} {op : Op} {ty : TypeId} {pos : String} {after : Array Edge} {v : Value}
def rsU (v : Value) : RS := ⟨Unit,(),fun _ => v,fun _ _ => True,fun _ _ _ _ _ => trivial⟩
def rsG (c : Bool) {α : Type} (x0 : α) (f : α → Value) (V : α → World → Prop) (st : ∀ x w w',Ext w w' → V x w → V x w') : RS := ⟨α,x0,fun x => cV c (f x),fun x w => c = true → V x w,fun x w w' hE h hc => st x w w' hE (h hc)⟩
theorem isR_of {R : RS} {i : Nat} (hR : rsAt i Vs = some R) : isR Vs i = true := by rw [isR,hR]; rfl
theorem rs_of {R : RS} {i : Nat} (hR : rsAt i Vs = some R) : rs Vs i = R := by rw [rs,hR]; rfl
theorem gy {R : RS} {o : Oper} (hR : rsAt (e - (r.length + 1)) Vs = some R) (h : ∀ a w',St n a w' L wa G bs N → Ext w w' → FD (D.getD (e - (r.length + 1)) []) F w' → YR P ops o R.T a w') (hd : o.dst = some d) (hn : Nat.blt d n = true)
  (k : ∀ x : R.α,Go n ((d,R.f x) :: L) wa w G bs N V (SeqE P ops D Vs e K ((e - (r.length + 1),R.V x) :: F) r)) : Go n L wa w G bs N V (SeqE P ops D Vs e K F (o :: r)) := fun a s hv => by
 have h1 := isR_of hR
 have h2 := rs_of hR
 unfold SeqE
 refine ⟨fun hf => absurd hf (by rw [h1]; decide),fun _ => ?_⟩
 rw [h2,hd]
 exact ⟨fun w' hE hF => h a w' (s.ext hE) hE hF,fun x => k x _ (s.put hn) hv⟩
theorem yc {R : RS} {T0 : Value → World → Prop} {f : FuncId} {fn : Func} {xs : List Operand} {ts : Array TypeId} {vs : List Value} (hR : rsAt (e - (r.length + 1)) Vs = some R) (hf : P.funcs[f]? = some fn)
  (hc : ∀ w',Ext w w' → FD (D.getD (e - (r.length + 1)) []) F w' → Calls P f vs.toArray w' (Ret fun v w'' => Ext w' w'' ∧ T0 v w'')) (cv : ∀ v w,T0 v w → R.T v w)
  (k : ∀ x : R.α,Go n ((d,R.f x) :: L) wa w G bs N V (SeqE P ops D Vs e K ((e - (r.length + 1),R.V x) :: F) r)) (hx : opvs L xs = some vs := by rfl) (hn : fn.name ≠ "runtime.NumGoroutine" := by decide) (hb' : fn.body.isSome = true := by rfl) (hd : Nat.blt d n = true := by rfl) :
  Go n L wa w G bs N V (SeqE P ops D Vs e K F (⟨some d,.call { callee := .value (.func f),args := xs.toArray,argTypes := ts },ty,pos,after,none⟩ :: r)) :=
 gy hR (fun _ w' s hE hF => .inr ⟨by simp [Region.wanted],.inr ⟨f,vs.toArray,r_call hf hn hb' (s.ag.opvs hx) rfl,(hc w' hE hF).mono fun e' _ h => by cases e' <;> first | exact ⟨h.1,cv _ _ h.2⟩ | exact h⟩⟩) rfl hd k
theorem YC {α : Type} {x0 : α} {fv : α → Value} {VV : α → World → Prop} {st : ∀ x w w',Ext w w' → VV x w → VV x w'} {j tj : Nat} {want g b : Bool} {T0 : Value → World → Prop} {f : FuncId} {fn : Func} {xs : List Operand} {ts : Array TypeId} {vs : List Value} (hR : rsAt (e - (r.length + 1)) Vs = some (rsG (g && (b == want)) x0 fv VV st)) (hf : P.funcs[f]? = some fn)
  (hc : (g && (b == want)) = true → ∀ w',Ext w w' → FD (D.getD (e - (r.length + 1)) []) F w' → Calls P f vs.toArray w' (Ret fun v w'' => Ext w' w'' ∧ T0 v w'')) (cv : ∀ v w,T0 v w → ∃ x,v = fv x ∧ VV x w)
  (k : ∀ x : α,Go n ((d,cV (g && (b == want)) (fv x)) :: L) wa w G bs N V (SeqE P ops D Vs e K ((e - (r.length + 1),fun w => (g && (b == want)) = true → VV x w) :: F) r)) (hj : (ops[j]?).bind (·.dst) = some tj := by rfl) (hl : GU L tj g b := by first | exact GU.cv rfl | exact GU.pl rfl) (hx : OGs L (g && (b == want)) xs vs := by repeat' first | exact .nil | refine .cons ?_ (by first | exact OG.cv rfl | exact OG.pl rfl)) (hn : fn.name ≠ "runtime.NumGoroutine" := by decide) (hb' : fn.body.isSome = true := by rfl) (hd : Nat.blt d n = true := by rfl) :
  Go n L wa w G bs N V (SeqE P ops D Vs e K F (⟨some d,.call { callee := .value (.func f),args := xs.toArray,argTypes := ts },ty,pos,after,some (j,want)⟩ :: r)) :=
 gy hR (fun a w' s hE hF => by
  have hw := wanted_of (ops := ops) (want := want) (dst := some d) (op := .call { callee := .value (.func f),args := xs.toArray,argTypes := ts }) (ty := ty) (pos := pos) (after := after) s.ag hj hl
  by_cases h : (g && (b == want)) = true
  ·exact .inr ⟨hw.trans h,.inr ⟨f,vs.toArray,r_call hf hn hb' (hx.map s.ag h) rfl,(hc h w' hE hF).mono fun e' w'' h' => by
    cases e' <;> first | exact h' | exact ⟨h'.1,by
     obtain ⟨x,h1,h2⟩ := cv _ _ h'.2
     exact ⟨x,by rw [h1]; show _ = cV (g && (b == want)) (fv x); rw [h]; rfl,fun _ => h2⟩⟩⟩⟩
  ·have hf : (g && (b == want)) = false := by simpa using h
   exact .inl ⟨hw.trans hf,x0,by show _ = cV (g && (b == want)) (fv x0); rw [hf]; rfl,fun h' => absurd h' h⟩) rfl hd k
theorem eT (k : ∀ w',Go n L wa w' G bs N V K) : Go n L wa w G bs N V (SeqE P ops D Vs e K F []) := fun a s hv w' hE _ => k w' a (s.ext hE) hv
end told
section ahead
variable {d : Nat} {op : Op} {ty : TypeId} {pos : String} {after : Array Edge} {v : Value}
theorem gbK [i : Stp P ops X] (cells : Array Value) {t : TypeId} {xs : List (Nat × Operand)} {vs : List (Nat × Value)} {fs : Array Field} {places : Array (Nat × Nat)} {z : Value} {size bytes : Nat} (hz : TI P t z size bytes) (hu : P.underlying t = some (.struct fs)) (hpl : ∀ w,(fs.mapM fun (f : Field) => (do pure (f.offset,← sizeOf f.type) : Sem (Nat × Nat))).run P w = .ok places w)
  (k : Go n ((d,.agg cells) :: L) wa w G bs N V (X r)) (hx : opps L xs = some vs := by rfl) (hf : Instr.fill (places[·]?) z.cells vs.toArray.toList = some cells := by kernel_rfl) (hd : (i.ok r && Nat.blt d n) = true := by rfl) :
  Go n L wa w G bs N V (X (⟨some d,.build t xs.toArray,ty,pos,after,none⟩ :: r)) := gv (fun _ _ s _ => r_build ((OPs.of hx : OPs L true xs vs).map s.ag rfl) hz hu hpl hf) k hd
theorem gnx [i : Stp P ops X] {x : Operand} {o : Option Addr} {p : Addr} (h : o = some p) (k : Go n ((d,.pointer (some p)) :: L) wa w G bs N V (X r)) (hx : opv L x = some (.pointer o) := by rfl) (hd : (i.ok r && Nat.blt d n) = true := by rfl) :
  Go n L wa w G bs N V (X (⟨some d,.nilCheck x,ty,pos,after,none⟩ :: r)) := gv (fun _ _ s _ => r_nilCheck ((s.ag.opv hx).trans (congrArg Value.pointer h))) k hd
theorem Gnx [i : Stp P ops X] {j tj : Nat} {want g b : Bool} {x : Operand} {o : Option Addr} {p : Addr} (h : (g && (b == want)) = true → o = some p) (k : Go n ((d,cV (g && (b == want)) (.pointer (some p))) :: L) wa w G bs N V (X r)) (hj : (ops[j]?).bind (·.dst) = some tj := by rfl) (hl : GU L tj g b := by first | exact GU.cv rfl | exact GU.pl rfl)
  (hx : OG L x (g && (b == want)) (.pointer o) := by first | exact OG.cv rfl | exact OG.pl rfl) (hd : (i.ok r && Nat.blt d n) = true := by rfl) :
  Go n L wa w G bs N V (X (⟨some d,.nilCheck x,ty,pos,after,some (j,want)⟩ :: r)) := gvG (fun _ _ s _ hg => r_nilCheck ((hx hg _ _ s.ag).trans (congrArg Value.pointer (h hg)))) k hj hl hd
end ahead
theorem go {f : FuncId} {fn : Func} {c : Code} {R : Ending → World → Prop} (vs : List Value) (hf : P.funcs[f]? = some fn) (hn : fn.ntmps = n) (hV : V)
  (k : Go n (enterL 0 vs) w w [] [] [] V (c.wp P (bodyPost P fn R))) (hb : fn.body = some c := by rfl) (hle : Nat.ble vs.length n = true := by rfl) : Calls P f vs.toArray w R := enter vs hf hb hn hle fun a hA => k a ⟨hA,Chg.refl _ _,by simp,by simp,by simp,by simp⟩ hV
theorem gz {fn : Func} {rs : List ResultVar} (vs : List Value) {R : Value → World → Prop} (hr : fn.results = rs.toArray) (hv : ∀ a,St n a w L wa G bs N → ResAll P a w rs vs) : Go n L wa w G bs N (R (resTuple vs) w) (bodyPost P fn (Ret R) .ret) := fun a s hV => res_all hr s.ag (hv a s) hV
theorem gz0 {fn : Func} {R : Value → World → Prop} (hr : fn.results = #[] := by rfl) : Go n L wa w G bs N (R (.tuple #[]) w) (bodyPost P fn (Ret R) .ret) := fun a s hV => res_none hr s.ag hV
theorem gz1 {fn : Func} {t : Nat} {v : Value} {R : Value → World → Prop} (hr : fn.results = #[.tmp t] := by rfl) (hv : lookupL t L = some v := by rfl) : Go n L wa w G bs N (R v w) (bodyPost P fn (Ret R) .ret) := fun a s hV => res_tmp hr s.ag hv hV
theorem gz2 {fn : Func} {t u : Nat} {v x : Value} {R : Value → World → Prop} (hr : fn.results = #[.tmp t,.tmp u] := by rfl) (hv : lookupL t L = some v := by rfl) (hx : lookupL u L = some x := by rfl) : Go n L wa w G bs N (R (.tuple #[v,x]) w) (bodyPost P fn (Ret R) .ret) := fun a s hV => res_tmp2 hr s.ag hv hx hV
theorem gzB {fn : Func} {s t B : Nat} {T : TypeId} {cs : List Value} {dd : TypeDesc} {z : Value} {bytes : Nat} {R : Value → World → Prop} (i : Nat) (hu : P.underlying t = some dd) (ht : TI P t z cs.length bytes) (hr : fn.results = #[.cell s t] := by rfl) (hv : lookupL s L = some (.pointer (some ⟨B,0,none⟩)) := by rfl) (hb : bs[i]? = some (B,T,cs) := by rfl) (hd : notAgg dd = false := by rfl) : Go n L wa w G bs N (R (.agg cs.toArray) w) (bodyPost P fn (Ret R) .ret) := fun _ s hV =>
 res_all (rs := [.cell _ _]) (vs := [.agg cs.toArray]) hr s.ag ⟨res_of_cell s.ag hv (s.bx i hb) hu hd ht,trivial⟩ hV
theorem gze {fn : Func} {R : Ending → World → Prop} (k : Go n L wa w G bs N V (bodyPost P fn R .ret)) : Go n L wa w G bs N V (bodyPost P fn R .normal) := k
end
end
end Go.Proofs.YtenokfdkckhhiaaGreatDoor
