/-
  What the proof of the statement leans on: texts one behind the other.
-/
import Derived.Test.YtenokfdkckhhiaaGreatDoorQBuildNests0
import Derived.Test.YtenokfdkckhhiaaGreatDoorQBuildNestsGtree
import Derived.Test.YtenokfdkckhhiaaGreatDoorQBuildNestsGlaw00
import Derived.Test.YtenokfdkckhhiaaGreatDoorQBuildNestsGlib
import Derived.Test.YtenokfdkckhhiaaGreatDoorQBuildNestsGformat
import Derived.Test.YtenokfdkckhhiaaGreatDoorProg
import Derived.Lib.AppendZerosOnto
import Derived.Lib.Overlaps
import Derived.Lib.Bytealg
import Derived.MapKept
import Derived.Lib.LaidTab
import Derived.Lib.Space
namespace Go.Proofs.YtenokfdkckhhiaaGreatDoor
section
open Go.RowKit
theorem take_getD {l : List T} {i : Nat} (h : i < l.length) : l.take (i + 1) = l.take i ++ [l.getD i T.nul] := by
 rw [List.take_succ_eq_append_getElem h,List.getD_eq_getElem?_getD,List.getElem?_eq_getElem h]; rfl
theorem sum_take (f : T → Nat) {l : List T} {i : Nat} (h : i < l.length) : ((l.take (i + 1)).map f).sum = ((l.take i).map f).sum + f (l.getD i T.nul) := by
 rw [take_getD h]; simp
theorem foldr_max_snoc (l : List Nat) (x : Nat) : (l ++ [x]).foldr max 0 = max (l.foldr max 0) x := by
 induction l with
 |nil => simp
 |cons a r ih => simp only [List.cons_append,List.foldr_cons,ih]; omega
theorem max_take (f : T → Nat) {l : List T} {i : Nat} (h : i < l.length) : ((l.take (i + 1)).map f).foldr max 0 = max (((l.take i).map f).foldr max 0) (f (l.getD i T.nul)) := by
 rw [take_getD h,List.map_append]; exact foldr_max_snoc _ _
theorem sum_take_le (f : T → Nat) (l : List T) (i : Nat) : ((l.take i).map f).sum ≤ (l.map f).sum := by
 conv => rhs; rw [← List.take_append_drop i l]
 rw [List.map_append,List.sum_append]; omega
def byteOk (c : UInt8) : Bool := !(c.toNat == 9 || c.toNat == 10 || c.toNat == 12 || c.toNat == 32 || c.toNat == 0 || c.toNat == 34 || c.toNat == 39 || c.toNat == 62 || c.toNat == 47 || c.toNat == 61 || c.toNat == 60) && !(decide (65 ≤ c.toNat) && decide (c.toNat ≤ 90))
def nameOk (s : Str) : Bool := !(s.isEmpty) && decide (s.length ≤ 32) && s.all byteOk
def attrsOk : Str → List (Str × Str) → Bool
 |_,[] => true
 |last,p :: r => !(Op.bytesLess p.1 last) && !(decide (p.1 = last)) && nameOk p.1 && decide (p.2.length ≤ 4096) && attrsOk p.1 r
def nodeOk : T → Bool
 |.node k n x ats ks => if k = 2 then nameOk n && x.isEmpty && (decide (ats.length ≤ 12) && attrsOk [] ats) && ((ks.attach.map fun ⟨t,_⟩ => nodeOk t && !(decide (t.kind = 5))).all id)
  else ats.isEmpty && ks.isEmpty && (if k = 3 then n.isEmpty && !x.isEmpty && decide (x.length ≤ 4096) else if k = 4 then n.isEmpty && decide (x.length ≤ 4096) else if k = 5 then x.isEmpty && decide (n.length ≤ 32) else false)
def kidsOk (t : T) : Bool := t.kids.all fun u => nodeOk u && !(decide (u.kind = 5) && !(decide (t.kind = 1)))
def T.check (t : T) : Bool := decide (t.kind = 1) && decide (t.size ≤ 300) && decide (t.depth ≤ 60) && (t.name.isEmpty && t.text.isEmpty) && t.attrs.isEmpty && kidsOk t
theorem nodeOk_el {t : T} (h : t.kind = 2) : nodeOk t = (nameOk t.name && t.text.isEmpty && (decide (t.attrs.length ≤ 12) && attrsOk [] t.attrs) && kidsOk t) := by
 cases t with
 |node k n x ats ks =>
  have h : k = 2 := h
  subst h
  have e : (ks.attach.map fun (x : { x // x ∈ ks }) => nodeOk x.1 && !(decide (T.kind x.1 = 5))) = ks.map fun u => nodeOk u && !(decide (T.kind u = 5)) := List.attach_map_val (f := fun u => nodeOk u && !(decide (T.kind u = 5)))
  have e2 : kidsOk (.node 2 n x ats ks) = (ks.map fun u => nodeOk u && !(decide (T.kind u = 5))).all id := by
   unfold kidsOk; rw [List.all_map]; simp [T.kind,T.kids,Function.comp_def]
  rw [nodeOk,if_pos rfl,e2,← e]; rfl
theorem nodeOk_ne {t : T} (h : t.kind ≠ 2) : nodeOk t = (t.attrs.isEmpty && t.kids.isEmpty && (if t.kind = 3 then t.name.isEmpty && !t.text.isEmpty && decide (t.text.length ≤ 4096) else if t.kind = 4 then t.name.isEmpty && decide (t.text.length ≤ 4096) else if t.kind = 5 then t.text.isEmpty && decide (t.name.length ≤ 32) else false)) := by
 cases t with
 |node k n x ats ks =>
  have h : k ≠ 2 := h
  rw [nodeOk,if_neg h]; rfl
theorem treeName {w : World} (s : Str) : Calls Tryz.prog 31 #[.string (Bs s)] w (Ret fun v w' => Ext w w' ∧ v = .bool (nameOk s)) := by
 refine tree_Name.ok _ ?_
 unfold tree_Name.vc
 refine ⟨fun hc => ⟨Chg.refl _ _,?_⟩,fun hc => ?_⟩
 ·rcases hc with rfl | hc
  ·rfl
  ·have : nameOk s = false := by unfold nameOk; simp; omega
   rw [this]
 ·obtain ⟨h0,h32⟩ := hc
  refine ⟨fun i w1 => ∃ k : Nat,i = (k : Int) ∧ k ≤ s.length ∧ (s.take k).all byteOk = true ∧ Ext w w1,fun i _ => s.length - i.toNat,⟨0,rfl,Nat.zero_le _,rfl,Chg.refl _ _⟩,?_⟩
  rintro _ w1 ⟨k,rfl,hk,hall,hE⟩
  rw [Int.toNat_natCast]
  refine ⟨fun hi => ?_,fun hi => ⟨hE,?_⟩⟩
  ·have hk' : k < s.length := by omega
   have hbad : byteOk (s.getD k 0) = false → nameOk s = false := fun hb => by
    have hm : s.getD k 0 ∈ s := by rw [List.getD_eq_getElem?_getD,List.getElem?_eq_getElem hk']; exact List.getElem_mem hk'
    unfold nameOk
    have : s.all byteOk = false := by
     rw [List.all_eq_false]; exact ⟨_,hm,fun h => by rw [hb] at h; cases h⟩
    rw [this,Bool.and_false]
   generalize hx : s.getD k 0 = c at hbad
   refine ⟨⟨by omega,hi⟩,fun hset => ⟨hE,?_⟩,fun hset => ⟨fun hup => ⟨hE,?_⟩,fun hup => ⟨⟨by omega,by omega⟩,⟨k + 1,by omega,by omega,?_,hE⟩,by dsimp only; omega⟩⟩⟩
   ·rw [hbad (by unfold byteOk; simp; intro; omega)]
   ·rw [hbad (by unfold byteOk; simp; omega)]
   ·rw [List.take_succ_eq_append_getElem hk',List.all_append,hall]
    have : s[k] = c := by rw [← hx,List.getD_eq_getElem?_getD,List.getElem?_eq_getElem hk']; rfl
    rw [this]
    simp only [List.all_cons,List.all_nil,Bool.and_true,Bool.true_and]
    unfold byteOk
    simp; omega
  ·have hkl : k = s.length := by omega
   subst hkl
   rw [List.take_of_length_le (Nat.le_refl _)] at hall
   unfold nameOk
   rw [hall]
   have : s.isEmpty = false := by cases s <;> simp_all
   simp [this]; omega
end
section
open Go.RowKit
theorem attrsOk_drop {last : Str} {l : List (Str × Str)} {k : Nat} (h : k < l.length) : attrsOk last (l.drop k) = (!(Op.bytesLess (l.getD k ([],[])).1 last) && !(decide ((l.getD k ([],[])).1 = last)) && nameOk (l.getD k ([],[])).1 && decide ((l.getD k ([],[])).2.length ≤ 4096) && attrsOk (l.getD k ([],[])).1 (l.drop (k + 1))) := by
 rw [List.drop_eq_getElem_cons h,List.getD_eq_getElem?_getD,List.getElem?_eq_getElem h]; rfl
theorem treeAttrs {A : List Nat} {w : World} {s : Sl} {l : List (Str × Str)} (h : Row A w s 2 (l.map ac)) :
  Calls Tryz.prog 117 #[s.v] w (Ret fun v w' => Ext w w' ∧ v = .bool (decide (l.length ≤ 12) && attrsOk [] l)) := by
 refine tree_attrs.ok _ ?_
 unfold tree_attrs.vc
 have hl := h.len
 simp only [List.length_map] at hl
 refine ⟨fun hb => ⟨Chg.refl _ _,?_⟩,fun hb => ?_⟩
 ·have : decide (l.length ≤ 12) = false := decide_eq_false (by omega)
  rw [this]; rfl
 ·have h12 : decide (l.length ≤ 12) = true := decide_eq_true (by omega)
  rw [h12,Bool.true_and]
  refine ⟨fun last i w1 => ∃ k : Nat,i = (k : Int) ∧ k ≤ l.length ∧ attrsOk [] l = attrsOk last (l.drop k) ∧ Ext w w1,fun _ i _ => l.length - i.toNat,⟨0,rfl,Nat.zero_le _,rfl,Chg.refl _ _⟩,?_⟩
  rintro last _ w1 ⟨k,rfl,hk,heq,hE⟩
  rw [Int.toNat_natCast]
  refine ⟨fun hi => ?_,fun hi => ⟨hE,?_⟩⟩
  ·have hk' : k < l.length := by omega
   obtain ⟨p,hp,_,hc,_⟩ := (h.ext hE).at_ k (by simpa using hk')
   have e : (l.map ac).getD k [] = ac (l.getD k ([],[])) := by simp [List.getD_eq_getElem?_getD,hk']
   rw [e] at hc
   rw [attrsOk_drop hk'] at heq
   rw [heq]
   generalize l.getD k ([],[]) = q at hc heq
   obtain ⟨qn,qv⟩ := q
   refine ⟨⟨by omega,hi⟩,p,hp,qn,qv,hc,fun w2 B2 _ hE2 => ⟨nameOk qn,fun _ => treeName qn,fun w3 hE3 => ⟨fun hbad => ⟨(hE.trans hE2).trans hE3,?_⟩,fun hgood => ⟨⟨by omega,by omega⟩,⟨k + 1,by omega,by omega,?_,(hE.trans hE2).trans hE3⟩,by dsimp only; omega⟩⟩⟩⟩
   ·rcases hbad with ((hb | hb) | hb) | hb
    ·simp [hb]
    ·simp [hb]
    ·simp [hb]
    ·have : decide (qv.length ≤ 4096) = false := decide_eq_false (by omega)
     simp [this]
   ·obtain ⟨⟨⟨h1,h2⟩,h3⟩,h4⟩ := hgood
    have : decide (qv.length ≤ 4096) = true := decide_eq_true (by omega)
    simp [h1,h2,h3,this]
  ·have hkl : k = l.length := by omega
   subst hkl
   rw [heq,List.drop_length]; rfl
theorem treeEmpty {A : List Nat} {w : World} {s : Sl} {l : List Str} (h : Row A w s 1 (l.map fun x => [.string (Bs x)])) :
  Calls Tryz.prog 40 #[s.v] w (Ret fun v w' => Ext w w' ∧ v = .bool (l.all List.isEmpty)) := by
 refine tree_empty.ok _ ?_
 unfold tree_empty.vc
 have hl := h.len
 have hcp := h.most
 have hcc := h.cap
 simp only [maxLen] at hcp
 simp only [List.length_map] at hl
 refine ⟨fun i w1 => ∃ k : Nat,i = (k : Int) ∧ k ≤ l.length ∧ l.all List.isEmpty = (l.drop k).all List.isEmpty ∧ Ext w w1,fun i _ => l.length - i.toNat,⟨0,rfl,Nat.zero_le _,rfl,Chg.refl _ _⟩,?_⟩
 rintro _ w1 ⟨k,rfl,hk,heq,hE⟩
 rw [Int.toNat_natCast]
 refine ⟨fun hi => ?_,fun hi => ⟨hE,?_⟩⟩
 ·have hk' : k < l.length := by omega
  obtain ⟨p,hp,_,hc,_⟩ := (h.ext hE).at_ k (by simpa using hk')
  have e : (l.map fun x => [Value.string (Bs x)]).getD k [] = [.string (Bs (l[k]))] := by simp [List.getD_eq_getElem?_getD,hk']
  rw [e] at hc
  have hc0 := hc 0 _ rfl
  rw [Addr.add_zero'] at hc0
  rw [List.drop_eq_getElem_cons hk',List.all_cons] at heq
  refine ⟨⟨by omega,hi⟩,p,hp,l[k],hc0,fun hne => ⟨hE,?_⟩,fun he => ⟨⟨by omega,by omega⟩,⟨k + 1,by omega,by omega,?_,hE⟩,by dsimp only; omega⟩⟩
  ·have : List.isEmpty l[k] = false := by cases hx : l[k] <;> simp_all
   rw [heq,this]; rfl
  ·have he : l[k] = [] := Classical.not_not.1 he
   rw [heq,he]; rfl
 ·have hkl : k = l.length := by omega
  subst hkl
  rw [heq,List.drop_length]; rfl
theorem isEmpty_dec (s : Str) : decide (s = ([] : Str)) = s.isEmpty := by cases s <;> rfl
theorem isEmpty_ndec (s : Str) : decide (s ≠ ([] : Str)) = !s.isEmpty := by cases s <;> rfl
theorem le_dec (s : Str) (n : Nat) : decide ((s.length : Int) ≤ (n : Int)) = decide (s.length ≤ n) := by rw [Bool.eq_iff_iff]; simp
theorem Box.strs {w : World} {B : Nat} {S : TypeId} {l : List Str} (h : Box w B S (l.map fun x => .string (Bs x))) (hl : l.length ≤ 1000) : Row [] w (Sl.mk (some ⟨B,0,none⟩) l.length l.length) 1 (l.map fun x => [.string (Bs x)]) := by
 refine ⟨by simp,Nat.le_refl _,by simp only [maxLen]; omega,fun i hi => ⟨⟨B,0,none⟩,rfl,by simp,fun j v hj => ?_,?_⟩⟩
 ·simp only [List.length_map] at hi
  have e : (l.map fun x => [Value.string (Bs x)]).getD i [] = [.string (Bs (l[i]))] := by simp [List.getD_eq_getElem?_getD,hi]
  rw [e] at hj
  cases j with
  |succ j => simp at hj
  |zero =>
   simp only [List.getElem?_cons_zero,Option.some.injEq] at hj
   subst hj
   rw [Addr.add_add,Addr.add_lit,Nat.mul_one,Nat.add_zero,Nat.zero_add]
   exact h.cell i _ (by simp [hi])
 ·simp only [List.length_map] at hi
  simp [List.getD_eq_getElem?_getD,hi]
theorem Row.one {A : List Nat} {w : World} {B : Nat} {S : TypeId} {cs : List Value} (h : Box w B S cs) (hA : B ∉ A) : Row A w (Sl.mk (some ⟨B,0,none⟩) 1 1) cs.length [cs] :=
 ⟨rfl,Nat.le_refl _,by simp [maxLen],fun i hi => by
  have : i = 0 := by simpa using hi
  subst this
  exact ⟨_,rfl,hA,by rw [Nat.zero_mul,Addr.add_zero']; exact h.cells,rfl⟩⟩
end
section
namespace Ev
set_option autoImplicit false
noncomputable section
inductive AC where
 |b (x : Bool)
 |i (k : IntKind) (n : Int)
 |s (x : List Nat)
 |p (a : Option (Nat × Nat))
 |sl (a : Option (Nat × Nat)) (n c es : Nat)
 |m (a : Option Nat)
 |f (id : Nat) (caps : List (Nat × Nat))
 |nf
 |ni
 |qu (n r : Nat)
 |tx (n : Nat) (x : List Nat)
inductive AV where
 |c (x : AC)
 |a (l : List AC)
 |t (l : List (Bool × List AC))
 |u
inductive S16 where
 |a
 |b
 |c
 |d
 |e
 |f
 |g
 |h
 |i
 |j
 |k
 |l
 |m
 |n
 |o
 |p
inductive N16 (α : Type) where
 |no
 |mk (a0 a1 a2 a3 a4 a5 a6 a7 a8 a9 a10 a11 a12 a13 a14 a15 : α)
structure Slt where
 i : S16
 j : S16
abbrev Fr := N16 (N16 (Option AV))
inductive Lk where
 |own
 |fam (f e : Nat)
 |ro
inductive AO where
 |cells (T : Nat) (c : List AC) (l : Lk)
 |map (e : List (List AC × AC × Nat)) (clock : Nat)
 |lst (v : List (Nat × Nat))
inductive Tr (α : Type) where
 |nil
 |node (v : Option α) (l r : Tr α)
structure AH where
 nx : Nat
 tr : Tr AO
 fm : Tr (Nat × Nat)
inductive X where
 |t (s : Slt)
 |c (v : AV)
inductive Kd where
 |s
 |b
 |i (k : IntKind)
inductive I where
 |mv (x : X)
 |pk (c a b : X)
 |nc (x : X)
 |bin (op : BinOp) (x y : X)
 |aeq (neg : Bool) (ks : List Kd) (x y : X)
 |bq (neg : Bool) (x y : X)
 |pq (neg : Bool) (x y : X)
 |sq (neg : Bool) (x y : X)
 |un (op : UnOp) (x : X)
 |cv (k : IntKind) (x : X)
 |b2s (x : X)
 |s2b (T : Nat) (x : X)
 |new (T : Nat) (x : X)
 |bld (z : List AC) (ps : List (Nat × Nat × X))
 |bsl (T es n : Nat) (z : List AC) (ps : List (Nat × Nat × X))
 |ld (n : Nat) (g : Bool) (x : X)
 |st (n : Nat) (x y : X)
 |fa (o : Nat) (x : X)
 |fd (o n : Nat) (g : Bool) (x : X)
 |ia (es : Nat) (x i : X)
 |ip (es n : Nat) (x i : X)
 |sx (x i : X)
 |ix (n es : Nat) (g : Bool) (x i : X)
 |ext (j : Nat) (x : X)
 |len (s : Bool) (x : X)
 |lenc (n : Nat)
 |sls (x : X) (lo hi : Option X)
 |slc (es : Nat) (x : X) (lo hi mx : Option X)
 |slp (es n : Nat) (x : X) (lo hi : Option X)
 |app (T es : Nat) (str : Bool) (x y : X)
 |cp (es : Nat) (str : Bool) (x y : X)
 |mx (x y : X)
 |mn (x y : X)
 |clr (z : List AC) (x : X)
 |ov (x y : X)
 |call (f : Nat) (xs : List X)
 |callv (x : X) (xs : List X)
 |mkf (f : Nat) (xs : List X)
 |mks (T es : Nat) (z : List AC) (x y : X)
 |mkm
 |lkp (ks : List Kd) (z : AC) (x k : X)
 |lko (ks : List Kd) (z : AC) (x k : X)
 |men (ks : List Kd) (z : AC) (x k : X)
 |est (x y z : X)
 |usd (x : X)
 |ustr (x y : X)
 |bad
structure Rq where
 dst : Option Slt
 guard : Option (Slt × Bool)
 i : I
structure R where
 dst : Option Slt
 guard : Option (Slt × Bool)
 i : I
 re : List Rq
inductive C where
 |skip
 |reg (l : List R)
 |dreg (l : List R)
 |seq (a b : C)
 |cond (x : X) (a b : C)
 |blk (id : Nat) (c : C)
 |loop (c : C)
 |exit (id : Nat)
 |ret
structure CF where
 n : Nat
 k : Nat
 c : C
 res : List (Slt × Option (Nat × Bool))
def N16.get0 {α : Type} (d : α) (n : N16 α) : α := N16.rec d (fun x0 _ _ _ _ _ _ _ _ _ _ _ _ _ _ _ => x0) n
def N16.get1 {α : Type} (d : α) (n : N16 α) : α := N16.rec d (fun _ x1 _ _ _ _ _ _ _ _ _ _ _ _ _ _ => x1) n
def N16.get2 {α : Type} (d : α) (n : N16 α) : α := N16.rec d (fun _ _ x2 _ _ _ _ _ _ _ _ _ _ _ _ _ => x2) n
def N16.get3 {α : Type} (d : α) (n : N16 α) : α := N16.rec d (fun _ _ _ x3 _ _ _ _ _ _ _ _ _ _ _ _ => x3) n
def N16.get4 {α : Type} (d : α) (n : N16 α) : α := N16.rec d (fun _ _ _ _ x4 _ _ _ _ _ _ _ _ _ _ _ => x4) n
def N16.get5 {α : Type} (d : α) (n : N16 α) : α := N16.rec d (fun _ _ _ _ _ x5 _ _ _ _ _ _ _ _ _ _ => x5) n
def N16.get6 {α : Type} (d : α) (n : N16 α) : α := N16.rec d (fun _ _ _ _ _ _ x6 _ _ _ _ _ _ _ _ _ => x6) n
def N16.get7 {α : Type} (d : α) (n : N16 α) : α := N16.rec d (fun _ _ _ _ _ _ _ x7 _ _ _ _ _ _ _ _ => x7) n
def N16.get8 {α : Type} (d : α) (n : N16 α) : α := N16.rec d (fun _ _ _ _ _ _ _ _ x8 _ _ _ _ _ _ _ => x8) n
def N16.get9 {α : Type} (d : α) (n : N16 α) : α := N16.rec d (fun _ _ _ _ _ _ _ _ _ x9 _ _ _ _ _ _ => x9) n
def N16.get10 {α : Type} (d : α) (n : N16 α) : α := N16.rec d (fun _ _ _ _ _ _ _ _ _ _ x10 _ _ _ _ _ => x10) n
def N16.get11 {α : Type} (d : α) (n : N16 α) : α := N16.rec d (fun _ _ _ _ _ _ _ _ _ _ _ x11 _ _ _ _ => x11) n
def N16.get12 {α : Type} (d : α) (n : N16 α) : α := N16.rec d (fun _ _ _ _ _ _ _ _ _ _ _ _ x12 _ _ _ => x12) n
def N16.get13 {α : Type} (d : α) (n : N16 α) : α := N16.rec d (fun _ _ _ _ _ _ _ _ _ _ _ _ _ x13 _ _ => x13) n
def N16.get14 {α : Type} (d : α) (n : N16 α) : α := N16.rec d (fun _ _ _ _ _ _ _ _ _ _ _ _ _ _ x14 _ => x14) n
def N16.get15 {α : Type} (d : α) (n : N16 α) : α := N16.rec d (fun _ _ _ _ _ _ _ _ _ _ _ _ _ _ _ x15 => x15) n
def N16.set0 {α : Type} (d v : α) (n : N16 α) : N16 α := N16.rec (.mk v d d d d d d d d d d d d d d d) (fun _ x1 x2 x3 x4 x5 x6 x7 x8 x9 x10 x11 x12 x13 x14 x15 => .mk v x1 x2 x3 x4 x5 x6 x7 x8 x9 x10 x11 x12 x13 x14 x15) n
def N16.set1 {α : Type} (d v : α) (n : N16 α) : N16 α := N16.rec (.mk d v d d d d d d d d d d d d d d) (fun x0 _ x2 x3 x4 x5 x6 x7 x8 x9 x10 x11 x12 x13 x14 x15 => .mk x0 v x2 x3 x4 x5 x6 x7 x8 x9 x10 x11 x12 x13 x14 x15) n
def N16.set2 {α : Type} (d v : α) (n : N16 α) : N16 α := N16.rec (.mk d d v d d d d d d d d d d d d d) (fun x0 x1 _ x3 x4 x5 x6 x7 x8 x9 x10 x11 x12 x13 x14 x15 => .mk x0 x1 v x3 x4 x5 x6 x7 x8 x9 x10 x11 x12 x13 x14 x15) n
def N16.set3 {α : Type} (d v : α) (n : N16 α) : N16 α := N16.rec (.mk d d d v d d d d d d d d d d d d) (fun x0 x1 x2 _ x4 x5 x6 x7 x8 x9 x10 x11 x12 x13 x14 x15 => .mk x0 x1 x2 v x4 x5 x6 x7 x8 x9 x10 x11 x12 x13 x14 x15) n
def N16.set4 {α : Type} (d v : α) (n : N16 α) : N16 α := N16.rec (.mk d d d d v d d d d d d d d d d d) (fun x0 x1 x2 x3 _ x5 x6 x7 x8 x9 x10 x11 x12 x13 x14 x15 => .mk x0 x1 x2 x3 v x5 x6 x7 x8 x9 x10 x11 x12 x13 x14 x15) n
def N16.set5 {α : Type} (d v : α) (n : N16 α) : N16 α := N16.rec (.mk d d d d d v d d d d d d d d d d) (fun x0 x1 x2 x3 x4 _ x6 x7 x8 x9 x10 x11 x12 x13 x14 x15 => .mk x0 x1 x2 x3 x4 v x6 x7 x8 x9 x10 x11 x12 x13 x14 x15) n
def N16.set6 {α : Type} (d v : α) (n : N16 α) : N16 α := N16.rec (.mk d d d d d d v d d d d d d d d d) (fun x0 x1 x2 x3 x4 x5 _ x7 x8 x9 x10 x11 x12 x13 x14 x15 => .mk x0 x1 x2 x3 x4 x5 v x7 x8 x9 x10 x11 x12 x13 x14 x15) n
def N16.set7 {α : Type} (d v : α) (n : N16 α) : N16 α := N16.rec (.mk d d d d d d d v d d d d d d d d) (fun x0 x1 x2 x3 x4 x5 x6 _ x8 x9 x10 x11 x12 x13 x14 x15 => .mk x0 x1 x2 x3 x4 x5 x6 v x8 x9 x10 x11 x12 x13 x14 x15) n
def N16.set8 {α : Type} (d v : α) (n : N16 α) : N16 α := N16.rec (.mk d d d d d d d d v d d d d d d d) (fun x0 x1 x2 x3 x4 x5 x6 x7 _ x9 x10 x11 x12 x13 x14 x15 => .mk x0 x1 x2 x3 x4 x5 x6 x7 v x9 x10 x11 x12 x13 x14 x15) n
def N16.set9 {α : Type} (d v : α) (n : N16 α) : N16 α := N16.rec (.mk d d d d d d d d d v d d d d d d) (fun x0 x1 x2 x3 x4 x5 x6 x7 x8 _ x10 x11 x12 x13 x14 x15 => .mk x0 x1 x2 x3 x4 x5 x6 x7 x8 v x10 x11 x12 x13 x14 x15) n
def N16.set10 {α : Type} (d v : α) (n : N16 α) : N16 α := N16.rec (.mk d d d d d d d d d d v d d d d d) (fun x0 x1 x2 x3 x4 x5 x6 x7 x8 x9 _ x11 x12 x13 x14 x15 => .mk x0 x1 x2 x3 x4 x5 x6 x7 x8 x9 v x11 x12 x13 x14 x15) n
def N16.set11 {α : Type} (d v : α) (n : N16 α) : N16 α := N16.rec (.mk d d d d d d d d d d d v d d d d) (fun x0 x1 x2 x3 x4 x5 x6 x7 x8 x9 x10 _ x12 x13 x14 x15 => .mk x0 x1 x2 x3 x4 x5 x6 x7 x8 x9 x10 v x12 x13 x14 x15) n
def N16.set12 {α : Type} (d v : α) (n : N16 α) : N16 α := N16.rec (.mk d d d d d d d d d d d d v d d d) (fun x0 x1 x2 x3 x4 x5 x6 x7 x8 x9 x10 x11 _ x13 x14 x15 => .mk x0 x1 x2 x3 x4 x5 x6 x7 x8 x9 x10 x11 v x13 x14 x15) n
def N16.set13 {α : Type} (d v : α) (n : N16 α) : N16 α := N16.rec (.mk d d d d d d d d d d d d d v d d) (fun x0 x1 x2 x3 x4 x5 x6 x7 x8 x9 x10 x11 x12 _ x14 x15 => .mk x0 x1 x2 x3 x4 x5 x6 x7 x8 x9 x10 x11 x12 v x14 x15) n
def N16.set14 {α : Type} (d v : α) (n : N16 α) : N16 α := N16.rec (.mk d d d d d d d d d d d d d d v d) (fun x0 x1 x2 x3 x4 x5 x6 x7 x8 x9 x10 x11 x12 x13 _ x15 => .mk x0 x1 x2 x3 x4 x5 x6 x7 x8 x9 x10 x11 x12 x13 v x15) n
def N16.set15 {α : Type} (d v : α) (n : N16 α) : N16 α := N16.rec (.mk d d d d d d d d d d d d d d d v) (fun x0 x1 x2 x3 x4 x5 x6 x7 x8 x9 x10 x11 x12 x13 x14 _ => .mk x0 x1 x2 x3 x4 x5 x6 x7 x8 x9 x10 x11 x12 x13 x14 v) n
def S16.get {α : Type} (s : S16) : α → N16 α → α := S16.rec (motive := fun _ => α → N16 α → α) N16.get0 N16.get1 N16.get2 N16.get3 N16.get4 N16.get5 N16.get6 N16.get7 N16.get8 N16.get9 N16.get10 N16.get11 N16.get12 N16.get13 N16.get14 N16.get15 s
def S16.set {α : Type} (s : S16) : α → α → N16 α → N16 α := S16.rec (motive := fun _ => α → α → N16 α → N16 α) N16.set0 N16.set1 N16.set2 N16.set3 N16.set4 N16.set5 N16.set6 N16.set7 N16.set8 N16.set9 N16.set10 N16.set11 N16.set12 N16.set13 N16.set14 N16.set15 s
def Fr.nil : Fr := .no
def S16.of : Nat → S16
 |0 => .a
 |1 => .b
 |2 => .c
 |3 => .d
 |4 => .e
 |5 => .f
 |6 => .g
 |7 => .h
 |8 => .i
 |9 => .j
 |10 => .k
 |11 => .l
 |12 => .m
 |13 => .n
 |14 => .o
 |_ => .p
def S16.num (s : S16) : Nat := S16.rec 0 1 2 3 4 5 6 7 8 9 10 11 12 13 14 15 s
def Slt.of (t : Nat) : Slt := ⟨S16.of (t / 16),S16.of (t % 16)⟩
def Slt.n (s : Slt) : Nat := 16 * s.i.num + s.j.num
def look (s : Slt) (L : Fr) : Option AV := S16.get s.j none (S16.get s.i .no L)
def putS (L : Fr) (s : Slt) (v : AV) : Fr := S16.set s.i .no (S16.set s.j none (some v) (S16.get s.i .no L)) L
def evX (L : Fr) : X → Option AV
 |.t n => look n L
 |.c v => some v
def Tr.get {α : Type} (t : Tr α) : Nat → Option α := Tr.rec (fun _ => none) (fun v _ _ il ir n => cond (Nat.beq n 0) v (cond (Nat.beq (Nat.mod n 2) 1) (il (Nat.div n 2)) (ir (Nat.sub (Nat.div n 2) 1)))) t
def Tr.setF {α : Type} (fuel : Nat) : Nat → α → Tr α → Tr α := Nat.rec (fun _ _ t => t) (fun _ ih n o t =>
 match t with
 |.nil => cond (Nat.beq n 0) (.node (some o) .nil .nil) (cond (Nat.beq (Nat.mod n 2) 1) (.node none (ih (Nat.div n 2) o .nil) .nil) (.node none .nil (ih (Nat.sub (Nat.div n 2) 1) o .nil)))
 |.node v l r => cond (Nat.beq n 0) (.node (some o) l r) (cond (Nat.beq (Nat.mod n 2) 1) (.node v (ih (Nat.div n 2) o l) r) (.node v l (ih (Nat.sub (Nat.div n 2) 1) o r)))) fuel
def Tr.set {α : Type} (t : Tr α) (n : Nat) (o : α) : Tr α := Tr.setF (Nat.succ n) n o t
def AH.get (H : AH) (n : Nat) : Option AO := H.tr.get n
def AH.set (H : AH) (n : Nat) (o : AO) : AH := ⟨H.nx,H.tr.set n o,H.fm⟩
def AH.push (H : AH) (o : AO) : AH := ⟨Nat.succ H.nx,H.tr.set H.nx o,H.fm⟩
def AH.new (H : AH) (T : Nat) (c : List AC) : AH := H.push (.cells T c .own)
def AH.fset (H : AH) (f e l : Nat) : AH := ⟨H.nx,H.tr,H.fm.set f (e,l)⟩
def AH.at (H : AH) (b : Nat) : Option (Nat × List AC × Lk) := match H.get b with
 |some (.cells T c l) => match l with
  |.fam f e => match H.fm.get f with
   |some (e',_) => cond (Nat.beq e e') (some (T,c,l)) none
   |none => none
  |_ => some (T,c,l)
 |_ => none
def over (l : List AC) : Nat → List AC → Option (List AC) := List.rec (fun i vs => match vs with | [] => cond (Nat.beq i 0) (some []) none | _ => none) (fun x r ih i vs => match i with
 |0 => match vs with
  |[] => some (x :: r)
  |v :: vs' => match ih 0 vs' with | some r' => some (v :: r') | none => none
 |Nat.succ j => match ih j vs with | some r' => some (x :: r') | none => none) l
def takeN (l : List AC) : Nat → Nat → Option (List AC) := List.rec (fun _ n => cond (Nat.beq n 0) (some []) none) (fun x _ ih i n => match i with
 |0 => match n with
  |0 => some []
  |Nat.succ m => match ih 0 m with | some l' => some (x :: l') | none => none
 |Nat.succ j => ih j n) l
def AH.rd (H : AH) (b i n : Nat) : Option (List AC) := match H.at b with
 |some (_,c,_) => takeN c i n
 |none => none
def AH.wr (H : AH) (b i : Nat) (vs : List AC) : Option AH := match H.at b with
 |some (T,c,.own) => match over c i vs with
  |some c' => some (H.set b (.cells T c' .own))
  |none => none
 |some (T,c,.fam f e) => match H.fm.get f with
  |some (_,l) => cond (Nat.beq l b) (match over c i vs with
   |some c' => some ((H.fset f (Nat.succ e) b).set b (.cells T c' (.fam f (Nat.succ e))))
   |none => none) none
  |none => none
 |_ => none
def AH.ext (H : AH) (T b : Nat) (vs : List AC) : Option AH := match H.at b with
 |some (_,c,.own) => match H.get b with
  |some (.cells T' _ _) => some (((H.set b (.cells T' c (.fam H.nx 0))).fset H.nx 0 H.nx).push (.cells T (c ++ vs) (.fam H.nx 0)))
  |_ => none
 |some (_,c,.fam f e) => match H.fm.get f with
  |some (_,l) => cond (Nat.beq l b) (some ((H.fset f e H.nx).push (.cells T (c ++ vs) (.fam f e)))) none
  |none => none
 |_ => none
def AV.cells : AV → List AC
 |.c x => [x]
 |.a l => l
 |_ => []
def AV.plain : AV → Bool
 |.c _ => true
 |.a _ => true
 |_ => false
def mkV (g : Bool) (l : List AC) : Option AV := match g,l with
 |true,l => some (.a l)
 |false,[x] => some (.c x)
 |_,_ => none
def leqL (l : List Nat) : List Nat → Bool := List.rec (fun r => match r with | [] => true | _ => false) (fun x _ ih r => match r with | [] => false | y :: r' => cond (Nat.beq x y) (ih r') false) l
def lltL (l : List Nat) : List Nat → Bool := List.rec (fun r => match r with | [] => false | _ => true) (fun x _ ih r => match r with | [] => false | y :: r' => cond (Nat.beq x y) (ih r') (Nat.blt x y)) l
def fI (k : IntKind) (n : Int) : Option AV := match n with
 |.ofNat m => some (.c (.i k (.ofNat m)))
 |.negSucc m => some (.c (.i k (.negSucc m)))
def iV (k : IntKind) (n : Int) : Option AV := match k,n with
 |.i64,.ofNat m => cond (Nat.blt m 9223372036854775808) (some (.c (.i .i64 (.ofNat m)))) (fI .i64 (IntKind.wrap .i64 (.ofNat m)))
 |k,n => fI k (IntKind.wrap k n)
def bV (b : Bool) : Option AV := match b with | true => some (.c (.b true)) | false => some (.c (.b false))
def ieq : Int → Int → Bool
 |.ofNat a,.ofNat b => Nat.beq a b
 |.negSucc a,.negSucc b => Nat.beq a b
 |_,_ => false
def ilt : Int → Int → Bool
 |.ofNat a,.ofNat b => Nat.blt a b
 |.negSucc a,.negSucc b => Nat.blt b a
 |.negSucc _,.ofNat _ => true
 |.ofNat _,.negSucc _ => false
def shOk (k : IntKind) (q : Int) : Bool := match q with
 |.ofNat n => Nat.ble n k.bits
 |_ => false
def binI (op : BinOp) (k : IntKind) (p q : Int) : Option AV := match op with
 |.eql => bV (ieq p q)
 |.neq => bV (!ieq p q)
 |.lss => bV (ilt p q)
 |.leq => bV (!ilt q p)
 |.gtr => bV (ilt q p)
 |.geq => bV (!ilt p q)
 |.add => iV k (p + q)
 |.sub => iV k (p - q)
 |.mul => iV k (p * q)
 |.quo => cond (ieq q 0) none (iV k (p.tdiv q))
 |.rem => cond (ieq q 0) none (fI k (p.tmod q))
 |.and => fI k (bits .and k p q)
 |.or => fI k (bits .or k p q)
 |.xor => fI k (bits .xor k p q)
 |.andNot => fI k (bits .andNot k p q)
 |.shr => cond (shOk k q) (fI k (p / 2 ^ q.toNat)) none
 |.shl => cond (shOk k q) (iV k (p * 2 ^ q.toNat)) none
def binS (op : BinOp) (p q : List Nat) : Option AV := match op with
 |.eql => bV (leqL p q)
 |.neq => bV (!leqL p q)
 |.lss => bV (lltL p q)
 |.leq => bV (!lltL q p)
 |.gtr => bV (lltL q p)
 |.geq => bV (!lltL p q)
 |.add => cond (Nat.blt (p.length + q.length) 4294967296) (some (.c (.s (p ++ q)))) none
 |_ => none
def neY (p q : List Nat) : Bool := match p,q with
 |_,[] => true
 |x :: _,y :: _ => !Nat.beq x y
 |_,_ => false
def nmB : List (List Nat) := [[100,105,118],[117,108],[115,101,99,116,105,111,110]]
def nmF : List (List Nat) := [[98],[105],[101,109]]
def nmO : List (List Nat) := [[115,112,97,110],[120,45,121]]
def clsN (n : Nat) : List (List Nat) := match Nat.mod n 4 with
 |0 => nmB
 |1 => nmF
 |2 => nmO
 |_ => [[100,105,118],[117,108],[115,101,99,116,105,111,110],[98],[105],[101,109],[115,112,97,110],[120,45,121]]
def upN (n : Nat) : Nat := cond (Nat.blt n 100) n (Nat.add (Nat.mul 4 (Nat.div n 4)) 3)
def txEq (n j : Nat) : Bool := Nat.beq (upN n) (upN j)
def inL (s : List Nat) (l : List (List Nat)) : Bool := List.rec false (fun x _ ih => cond (leqL x s) true ih) l
def txNe (n : Nat) (p q : List Nat) : Bool := cond (neY p q) true (match p with
 |[] => cond (Nat.blt n 100) false (!inL q (clsN n))
 |_ => false)
def binY (op : BinOp) (b : Bool) : Option AV := match b with
 |true => (match op with
  |.eql => bV false
  |.neq => bV true
  |_ => none)
 |false => none
def binE (op : BinOp) (b : Bool) : Option AV := match b with
 |true => (match op with
  |.eql => bV true
  |.neq => bV false
  |_ => none)
 |false => none
def isN {α : Type} : Option α → Bool
 |none => true
 |some _ => false
def binV (op : BinOp) (x y : AV) : Option AV := match x,y with
 |.c (.i k p),.c (.i j q) => match op with
  |.shl => binI .shl k p q
  |.shr => binI .shr k p q
  |op => cond (decide (j = k)) (binI op k p q) none
 |.c (.s p),.c (.s q) => binS op p q
 |.c (.tx n p),.c (.s q) => binY op (txNe n p q)
 |.c (.s q),.c (.tx n p) => binY op (txNe n p q)
 |.c (.tx n p),.c (.tx j q) => binE op (txEq n j && leqL p q)
 |_,_ => none
def idx (x : Option AV) : Option Nat := match x with
 |some (.c (.i _ (.ofNat n))) => some n
 |_ => none
def evXs (L : Fr) (xs : List X) : Option (List AV) := List.rec (some []) (fun x _ ih => match evX L x,ih with | some v,some r => some (v :: r) | _,_ => none) xs
def evP (L : Fr) (ps : List (Nat × Nat × X)) : List AC → Option (List AC) := List.rec (fun z => some z) (fun p _ ih z => match evX L p.2.2 with | some v => cond (v.plain && Nat.beq v.cells.length p.2.1) (match over z p.1 v.cells with | some z' => ih z' | none => none) none | none => none) ps
def bound (L : Fr) (x : Option X) (d : Nat) : Option Nat := match x with
 |none => some d
 |some x => idx (evX L x)
def slS (s : List Nat) (lo hi : Nat) : Option AV := cond (Nat.ble lo hi && Nat.ble hi s.length) (some (.c (.s ((s.drop lo).take (Nat.sub hi lo))))) none
def repl (z : List AC) (n : Nat) : List AC := Nat.rec [] (fun _ ih => z ++ ih) n
def u8s (l : List AC) : Option (List Nat) := List.rec (some []) (fun x _ ih => match x with
 |.i .u8 (.ofNat n) => cond (Nat.blt n 256) (match ih with | some r => some (n :: r) | none => none) none
 |_ => none) l
def s8 (s : List Nat) : List AC := s.map fun n => .i .u8 (.ofNat n)
def ceq : Kd → AC → AC → Option Bool
 |.s,.s a,.s b => some (leqL a b)
 |.i k,.i j a,.i j' b => cond (decide (j = k) && decide (j' = k)) (some (ieq a b)) none
 |.b,.b a,.b b => some (a == b)
 |_,_,_ => none
def ceqs (ks : List Kd) : List AC → List AC → Option Bool := List.rec (fun l r => match l,r with | [],[] => some true | _,_ => none) (fun k _ ih l r => match l,r with
 |x :: l',y :: r' => match ceq k x y with
  |some true => ih l' r'
  |some false => (match ih l' r' with | some _ => some false | none => none)
  |none => none
 |_,_ => none) ks
def mfind (ks : List Kd) (es : List (List AC × AC × Nat)) (k : List AC) : Option (Option (AC × Nat)) := List.rec (some none) (fun e _ ih => match ceqs ks k e.1 with
 |some true => some (some e.2)
 |some false => ih
 |none => none) es
def mset (es : List (List AC × AC × Nat)) (n : Nat) (v : AC) : Option (List (List AC × AC × Nat)) := List.rec none (fun e r ih => match Nat.beq e.2.2 n with
 |true => some ((e.1,v,n) :: r)
 |false => match ih with | some r' => some (e :: r') | none => none) es
abbrev Run := Nat → List AV → AH → Option (AV × AH)
abbrev Ri := Run → Fr → AH → Option (AV × AH)
def val (H : AH) (v : Option AV) : Option (AV × AH) := match v with | some v => some (v,H) | none => none
def I.mvE (x : X) : Ri := fun _ L H => val H (evX L x)
def I.pkE (c a b : X) : Ri := fun _ L H => match evX L c with
 |some (.c (.b true)) => val H (evX L a)
 |some (.c (.b false)) => val H (evX L b)
 |_ => none
def I.ncE (x : X) : Ri := fun _ L H => match evX L x with
 |some (.c (.p (some a))) => some (.c (.p (some a)),H)
 |some (.c (.f f l)) => some (.c (.f f l),H)
 |_ => none
def two (H : AH) (p q : Nat) : Bool := match H.at p,H.at q with
 |some (_,_,.own),some (_,_,.own) => true
 |_,_ => false
def peq (H : AH) (p q : Nat × Nat) : Option Bool := cond (Nat.beq p.1 q.1) (some (Nat.beq p.2 q.2)) (cond (two H p.1 q.1) (some false) none)
def I.binE (op : BinOp) (x y : X) : Ri := fun _ L H => match evX L x,evX L y with
 |some p,some v => val H (binV op p v)
 |_,_ => none
def I.bqE (neg : Bool) (x y : X) : Ri := fun _ L H => match evX L x,evX L y with
 |some (.c (.b p)),some (.c (.b q)) => val H (bV ((p == q) != neg))
 |_,_ => none
def I.pqE (neg : Bool) (x y : X) : Ri := fun _ L H => match evX L x,evX L y with
 |some (.c (.p p)),some (.c (.p none)) => val H (bV (isN p != neg))
 |some (.c (.p (some p))),some (.c (.p (some q))) => match peq H p q with
  |some b => val H (bV (b != neg))
  |none => none
 |_,_ => none
def I.sqE (neg : Bool) (x y : X) : Ri := fun _ L H => match evX L x,evX L y with
 |some (.c (.sl p _ _ _)),some (.c (.sl none _ _ _)) => val H (bV (isN p != neg))
 |_,_ => none
def I.aeqE (neg : Bool) (ks : List Kd) (x y : X) : Ri := fun _ L H => match evX L x,evX L y with
 |some (.a l),some (.a r) => match ceqs ks l r with
  |some b => val H (bV (b != neg))
  |none => none
 |_,_ => none
def I.unE (op : UnOp) (x : X) : Ri := fun _ L H => match op,evX L x with
 |.not,some (.c (.b b)) => val H (bV (!b))
 |.neg,some (.c (.i k n)) => val H (iV k (0 - n))
 |.xor,some (.c (.i k n)) => val H (fI k (bits .xor k (if k.signed then -1 else k.max) n))
 |_,_ => none
def I.cvE (k : IntKind) (x : X) : Ri := fun _ L H => match evX L x with
 |some (.c (.i _ n)) => val H (iV k n)
 |_ => none
def I.b2sE (x : X) : Ri := fun _ L H => match evX L x with
 |some (.c (.sl none _ _ _)) => some (.c (.s []),H)
 |some (.c (.sl (some (b,o)) n _ es)) => cond (Nat.beq es 1) (match H.rd b o n with
  |some l => match u8s l with | some s => some (.c (.s s),H) | none => none
  |none => none) none
 |_ => none
def I.s2bE (T : Nat) (x : X) : Ri := fun _ L H => match evX L x with
 |some (.c (.s s)) => some (.c (.sl (some (H.nx,0)) s.length s.length 1),H.push (.cells T (s8 s) .ro))
 |_ => none
def I.newE (T : Nat) (x : X) : Ri := fun _ L H => match evX L x with
 |some v => cond v.plain (some (.c (.p (some (H.nx,0))),H.new T v.cells)) none
 |none => none
def I.bldE (z : List AC) (ps : List (Nat × Nat × X)) : Ri := fun _ L H => match evP L ps z with
 |some l => some (.a l,H)
 |none => none
def I.bslE (T es n : Nat) (z : List AC) (ps : List (Nat × Nat × X)) : Ri := fun _ L H => match evP L ps z with
 |some l => some (.c (.sl (some (H.nx,0)) n n es),H.new T l)
 |none => none
def I.ldE (n : Nat) (g : Bool) (x : X) : Ri := fun _ L H => match evX L x with
 |some (.c (.p (some (b,o)))) => match H.rd b o n with
  |some l => val H (mkV g l)
  |none => none
 |_ => none
def I.stE (n : Nat) (x y : X) : Ri := fun _ L H => match evX L x,evX L y with
 |some (.c (.p (some (b,o)))),some v => cond (v.plain && Nat.beq v.cells.length n) (match H.wr b o v.cells with
  |some H' => some (.u,H')
  |none => none) none
 |_,_ => none
def I.faE (o : Nat) (x : X) : Ri := fun _ L H => match evX L x with
 |some (.c (.p (some (b,i)))) => some (.c (.p (some (b,Nat.add i o))),H)
 |_ => none
def I.fdE (o n : Nat) (g : Bool) (x : X) : Ri := fun _ L H => match evX L x with
 |some (.a l) => match takeN l o n with
  |some l' => val H (mkV g l')
  |none => none
 |_ => none
def I.iaE (es : Nat) (x i : X) : Ri := fun _ L H => match evX L x,idx (evX L i) with
 |some (.c (.sl (some (b,o)) n _ _)),some j => cond (Nat.blt j n) (some (.c (.p (some (b,Nat.add o (Nat.mul j es)))),H)) none
 |_,_ => none
def I.ipE (es n : Nat) (x i : X) : Ri := fun _ L H => match evX L x,idx (evX L i) with
 |some (.c (.p (some (b,o)))),some j => cond (Nat.blt j n) (some (.c (.p (some (b,Nat.add o (Nat.mul j es)))),H)) none
 |_,_ => none
def I.sxE (x i : X) : Ri := fun _ L H => match evX L x,idx (evX L i) with
 |some (.c (.s s)),some j => match s[j]? with
  |some n => some (.c (.i .u8 (.ofNat n)),H)
  |none => none
 |_,_ => none
def I.ixE (n es : Nat) (g : Bool) (x i : X) : Ri := fun _ L H => match evX L x,idx (evX L i) with
 |some (.a l),some j => cond (Nat.blt j n) (match takeN l (Nat.mul j es) es with
  |some l' => val H (mkV g l')
  |none => none) none
 |_,_ => none
def I.extE (j : Nat) (x : X) : Ri := fun _ L H => match evX L x with
 |some (.t l) => match l[j]? with
  |some (g,l') => val H (mkV g l')
  |none => none
 |_ => none
def I.lenE (s : Bool) (x : X) : Ri := fun _ L H => match s,evX L x with
 |false,some (.c (.s s)) => some (.c (.i .i64 (.ofNat s.length)),H)
 |true,some (.c (.sl _ n _ _)) => some (.c (.i .i64 (.ofNat n)),H)
 |_,_ => none
def I.lencE (n : Nat) : Ri := fun _ _ H => some (.c (.i .i64 (.ofNat n)),H)
def I.slsE (x : X) (lo hi : Option X) : Ri := fun _ L H => match evX L x with
 |some (.c (.s s)) => match bound L lo 0,bound L hi s.length with
  |some l,some h => val H (slS s l h)
  |_,_ => none
 |_ => none
def I.slcE (es : Nat) (x : X) (lo hi mx : Option X) : Ri := fun _ L H => match evX L x with
 |some (.c (.sl none n c e)) => match bound L lo 0,bound L hi 0,bound L mx 0 with
  |some 0,some 0,some 0 => some (.c (.sl none n c e),H)
  |_,_,_ => none
 |some (.c (.sl (some (b,o)) n c e)) => match bound L lo 0,bound L hi n,bound L mx c with
  |some l,some h,some m => cond (Nat.ble l h && Nat.ble h m && Nat.ble m c && Nat.beq e es) (some (.c (.sl (some (b,Nat.add o (Nat.mul l es))) (Nat.sub h l) (Nat.sub m l) es),H)) none
  |_,_,_ => none
 |_ => none
def I.slpE (es n : Nat) (x : X) (lo hi : Option X) : Ri := fun _ L H => match evX L x with
 |some (.c (.p (some (b,o)))) => match bound L lo 0,bound L hi n,H.rd b o (Nat.mul n es) with
  |some l,some h,some _ => cond (Nat.ble l h && Nat.ble h n) (some (.c (.sl (some (b,Nat.add o (Nat.mul l es))) (Nat.sub h l) (Nat.sub n l) es),H)) none
  |_,_,_ => none
 |_ => none
def srcE (H : AH) (es : Nat) (str : Bool) (mx : Option Nat) (y : AV) : Option (List AC × Nat) := match str,y with
 |true,.c (.s s) => cond (Nat.beq es 1) (match mx with
  |none => some (s8 s,s.length)
  |some k => some (s8 (s.take k),Nat.min s.length k)) none
 |false,.c (.sl none _ _ _) => some ([],0)
 |false,.c (.sl (some (b,o)) m _ _) => match (match mx with | none => m | some k => Nat.min m k) with
  |j => match H.rd b o (Nat.mul j es) with | some l => some (l,j) | none => none
 |_,_ => none
def appE (T es : Nat) (a : Option (Nat × Nat)) (n c e : Nat) (vs : List AC) (m : Nat) (H : AH) : Option (AV × AH) := match a with
 |none => some (.c (.sl (some (H.nx,0)) m m es),H.new T vs)
 |some (b,o) => cond (Nat.beq e es) (cond (Nat.ble (Nat.add n m) c)
  (match H.wr b (Nat.add o (Nat.mul n es)) vs with
   |some H' => some (.c (.sl (some (b,o)) (Nat.add n m) c es),H')
   |none => none)
  (match H.at b with
   |some (_,cs,_) => cond (Nat.beq o 0 && Nat.beq (Nat.mul n es) cs.length) (match H.ext T b vs with
    |some H' => some (.c (.sl (some (H.nx,0)) (Nat.add n m) (Nat.add n m) es),H')
    |none => none) none
   |none => none)) none
def I.appE (T es : Nat) (str : Bool) (x y : X) : Ri := fun _ L H => match evX L x,evX L y with
 |some (.c (.sl a n c e)),some y => match srcE H es str none y with
  |none => none
  |some (vs,m) => cond (Nat.beq m 0) (some (.c (.sl a n c e),H)) (cond (Nat.blt (Nat.add n m) 65536) (Ev.appE T es a n c e vs m H) none)
 |_,_ => none
def I.cpE (es : Nat) (str : Bool) (x y : X) : Ri := fun _ L H => match evX L x,evX L y with
 |some (.c (.sl a n _ _)),some y => match srcE H es str (some n) y with
  |none => none
  |some (vs,m) => cond (Nat.beq m 0) (some (.c (.i .i64 0),H)) (match a with
   |some (b,o) => match H.wr b o vs with
    |some H' => some (.c (.i .i64 (.ofNat m)),H')
    |none => none
   |none => none)
 |_,_ => none
def I.mxE (x y : X) : Ri := fun _ L H => match evX L x,evX L y with
 |some (.c (.i k p)),some (.c (.i j q)) => cond (decide (j = k)) (some (.c (.i k (cond (ilt p q) q p)),H)) none
 |_,_ => none
def I.mnE (x y : X) : Ri := fun _ L H => match evX L x,evX L y with
 |some (.c (.i k p)),some (.c (.i j q)) => cond (decide (j = k)) (some (.c (.i k (cond (ilt q p) q p)),H)) none
 |_,_ => none
def I.clrE (z : List AC) (x : X) : Ri := fun _ L H => match evX L x with
 |some (.c (.sl none _ _ _)) => some (.u,H)
 |some (.c (.sl (some (b,o)) n _ _)) => cond (Nat.beq n 0) (some (.u,H)) (match H.wr b o (repl z n) with
  |some H' => some (.u,H')
  |none => none)
 |_ => none
def I.ovE (x y : X) : Ri := fun _ L H => match evX L x,evX L y with
 |some (.c (.sl a n _ _)),some (.c (.sl b m _ _)) => match n,m with
  |0,_ => some (.c (.b false),H)
  |_,0 => some (.c (.b false),H)
  |_,_ => match a,b with
   |some (p,_),some (q,_) => cond (Nat.beq p q) none (cond (two H p q) (some (.c (.b false),H)) none)
   |_,_ => none
 |_,_ => none
def I.callE (f : Nat) (xs : List X) : Ri := fun run L H => match evXs L xs with
 |some vs => run f vs H
 |none => none
def capV (l : List (Nat × Nat)) : List AV := l.map fun p => .c (.p (some p))
def I.callvE (x : X) (xs : List X) : Ri := fun run L H => match evX L x,evXs L xs with
 |some (.c (.f f l)),some vs => run f (vs ++ capV l) H
 |_,_ => none
def ptrs (l : List AV) : Option (List (Nat × Nat)) := List.rec (some []) (fun x _ ih => match x with
 |.c (.p (some p)) => (match ih with | some r => some (p :: r) | none => none)
 |_ => none) l
def I.mkfE (f : Nat) (xs : List X) : Ri := fun _ L H => match evXs L xs with
 |some vs => match ptrs vs with
  |some l => some (.c (.f f l),H)
  |none => none
 |none => none
def I.mksE (T es : Nat) (z : List AC) (x y : X) : Ri := fun _ L H => match idx (evX L x),idx (evX L y) with
 |some n,some c => cond (Nat.ble n c && Nat.blt c 65536) (some (.c (.sl (some (H.nx,0)) n c es),H.new T (repl z c))) none
 |_,_ => none
def I.mkmE : Ri := fun _ _ H => some (.c (.m (some H.nx)),H.push (.map [] 0))
def mget (ks : List Kd) (H : AH) (b : Nat) (k : List AC) : Option (Option (AC × Nat)) := cond (Nat.beq k.length ks.length) (match H.get b with
 |some (.map es _) => mfind ks es k
 |_ => none) none
def I.lkpE (ks : List Kd) (z : AC) (x k : X) : Ri := fun _ L H => match evX L x,evX L k with
 |some (.c (.m (some b))),some (.a l) => match mget ks H b l with
  |some (some (v,_)) => some (.c v,H)
  |some none => some (.c z,H)
  |none => none
 |_,_ => none
def I.lkoE (ks : List Kd) (z : AC) (x k : X) : Ri := fun _ L H => match evX L x,evX L k with
 |some (.c (.m (some b))),some (.a l) => match mget ks H b l with
  |some (some (v,_)) => some (.t [(false,[v]),(false,[.b true])],H)
  |some none => some (.t [(false,[z]),(false,[.b false])],H)
  |none => none
 |_,_ => none
def I.menE (ks : List Kd) (z : AC) (x k : X) : Ri := fun _ L H => match evX L x,evX L k with
 |some (.c (.m (some b))),some (.a l) => match H.get b with
  |some (.map es c) => match mget ks H b l with
   |some none => some (.t [(false,[z]),(false,[.i .i64 (.ofNat c)])],H.set b (.map (es ++ [(l,z,c)]) (Nat.succ c)))
   |_ => none
  |_ => none
 |_,_ => none
def I.estE (x y z : X) : Ri := fun _ L H => match evX L x,idx (evX L y),evX L z with
 |some (.c (.m (some b))),some n,some (.c v) => match H.get b with
  |some (.map es c) => match mset es n v with
   |some es' => some (.u,H.set b (.map es' c))
   |none => none
  |_ => none
 |_,_,_ => none
def I.usdE (x : X) : Ri := fun _ L H => match evX L x with
 |some (.c (.sl none _ _ _)) => some (.c (.p none),H)
 |some (.c (.sl (some a) _ c _)) => cond (Nat.beq c 0) none (some (.c (.p (some a)),H))
 |_ => none
def I.ustrE (x y : X) : Ri := fun _ L H => match evX L x,evX L y with
 |some (.c (.p _)),some (.c (.i .i64 (.ofNat 0))) => some (.c (.s []),H)
 |_,_ => none
def I.badE : Ri := fun _ _ _ => none
def evI (i : I) : Ri := I.rec I.mvE I.pkE I.ncE I.binE I.aeqE I.bqE I.pqE I.sqE I.unE I.cvE I.b2sE I.s2bE I.newE I.bldE I.bslE I.ldE I.stE I.faE I.fdE I.iaE I.ipE I.sxE I.ixE I.extE I.lenE I.lencE I.slsE I.slcE I.slpE I.appE I.cpE I.mxE I.mnE I.clrE I.ovE I.callE I.callvE I.mkfE I.mksE I.mkmE I.lkpE I.lkoE I.menE I.estE I.usdE I.ustrE I.badE i
inductive Ex where
 |norm
 |exit (id : Nat)
 |ret
def putF (L : Fr) (d : Option Slt) (v : AV) : Fr := match d with
 |some d => putS L d v
 |none => L
def passed (L : Fr) (g : Option (Slt × Bool)) : Option Bool := match g with
 |none => some false
 |some (t,w) => match look t L with
  |some (.c (.b b)) => some (b != w)
  |some .u => some true
  |_ => none
def evR (l : List R) : Run → Fr → AH → Option (Ex × Fr × AH) :=
 List.rec (fun _ L H => some (.norm,L,H)) (fun r _ ih run L H => match passed L r.guard with
  |some true => ih run (putF L r.dst .u) H
  |some false => (match evI r.i run L H with
   |some (v,H') => ih run (putF L r.dst v) H'
   |none => none)
  |none => none) l
def poE : Option (Nat × Nat) → Option (Nat × Nat) → Bool
 |none,none => true
 |some p,some q => Nat.beq p.1 q.1 && Nat.beq p.2 q.2
 |_,_ => false
def capE (l : List (Nat × Nat)) : List (Nat × Nat) → Bool := List.rec (fun r => match r with | [] => true | _ => false) (fun x _ ih r => match r with | [] => false | y :: r' => cond (poE (some x) (some y)) (ih r') false) l
def AC.same : AC → AC → Bool
 |.b x,.b y => x == y
 |.i j x,.i k y => decide (j = k) && ieq x y
 |.s x,.s y => leqL x y
 |.p x,.p y => poE x y
 |.sl x n c e,.sl y n2 c2 e2 => poE x y && Nat.beq n n2 && Nat.beq c c2 && Nat.beq e e2
 |.m none,.m none => true
 |.m (some x),.m (some y) => Nat.beq x y
 |.f k l,.f j r => Nat.beq k j && capE l r
 |.nf,.nf => true
 |.ni,.ni => true
 |.tx n x,.tx n2 z => Nat.beq n n2 && leqL x z
 |_,_ => false
def sameL (l : List AC) : List AC → Bool := List.rec (fun r => match r with | [] => true | _ => false) (fun x _ ih r => match r with | [] => false | y :: r' => cond (x.same y) (ih r') false) l
def AV.same : AV → AV → Bool
 |.c x,.c y => x.same y
 |.a l,.a r => sameL l r
 |_,_ => false
def reOk (l : List Rq) (run : Run) (L : Fr) (H : AH) : Bool := List.rec true (fun r _ ih => match passed L r.guard with
 |some true => ih
 |some false => (match r.dst,evI r.i run L H with
  |some t,some (v,_) => (match look t L with
   |some p => cond (v.same p) ih false
   |none => false)
  |_,_ => false)
 |none => false) l
def evD (l : List R) : Run → Fr → AH → Option (Ex × Fr × AH) :=
 List.rec (fun _ L H => some (.norm,L,H)) (fun r _ ih run L H => match passed L r.guard with
  |some true => ih run (putF L r.dst .u) H
  |some false => (match evI r.i run L H with
   |some (v,H') => cond (reOk r.re run (putF L r.dst v) H') (ih run (putF L r.dst v) H') none
   |none => none)
  |none => none) l
abbrev Co := Run → Fr → AH → Option (Ex × Fr × AH)
def seqE (_ _ : C) (ia ib : Co) : Co := fun run L H => match ia run L H with
 |some (.norm,L',H') => ib run L' H'
 |r => r
def condE (x : X) (_ _ : C) (ia ib : Co) : Co := fun run L H => match evX L x with
 |some (.c (.b true)) => ia run L H
 |some (.c (.b false)) => ib run L H
 |_ => none
def blkE (id : Nat) (_ : C) (ic : Co) : Co := fun run L H => match ic run L H with
 |some (.exit j,L',H') => cond (Nat.beq j id) (some (.norm,L',H')) (some (.exit j,L',H'))
 |r => r
def fuelL : Nat := 100000
def loopN (ic : Co) (run : Run) (k : Nat) : Fr → AH → Option (Ex × Fr × AH) := Nat.rec (fun _ _ => none) (fun _ again L H => match ic run L H with
 |some (.norm,L',H') => again L' H'
 |r => r) k
def loopE (_ : C) (ic : Co) : Co := fun run => loopN ic run fuelL
def evC (c : C) : Co := C.rec (fun _ L H => some (.norm,L,H)) evR evD seqE condE blkE loopE (fun id _ L H => some (.exit id,L,H)) (fun _ L H => some (.ret,L,H)) c
def results (rs : List (Slt × Option (Nat × Bool))) (L : Fr) (H : AH) : Option (List (Bool × List AC)) :=
 List.rec (some []) (fun r _ ih => match look r.1 L,r.2,ih with
  |some (.c x),none,some l => some ((false,[x]) :: l)
  |some (.a x),none,some l => some ((true,x) :: l)
  |some (.c (.p (some (b,o)))),some (n,g),some l => match H.rd b o n with
   |some cs => some ((g,cs) :: l)
   |none => none
  |_,_,_ => none) rs
def enter (vs : List AV) : Nat → Fr := List.rec (fun _ => Fr.nil) (fun v _ ih i => putS (ih (Nat.succ i)) (Slt.of i) v) vs
def resV (l : List (Bool × List AC)) : Option AV := match l with
 |[(g,l)] => mkV g l
 |l => some (.t l)
def outF (cf : CF) : Option (Ex × Fr × AH) → Option (AV × AH)
 |some (.exit _,_,_) => none
 |some (_,L,H') => match results cf.res L H' with
  |some l => val H' (resV l)
  |none => none
 |none => none
def callF (sp : Run) (ft : Nat → Option CF) (ih : Run) : Run := fun f vs H => match sp f vs H with
 |some r => some r
 |none => match ft f with
  |some cf => cond (Nat.ble vs.length cf.n && Nat.ble vs.length cf.k) (outF cf (evC cf.c ih (enter vs 0) H)) none
  |none => none
def runF (sp : Run) (ft : Nat → Option CF) (fuel : Nat) : Run := Nat.rec (fun _ _ _ => none) (fun _ ih => callF sp ft ih) fuel
end
end Ev
end
section
open Go.RowKit
theorem App.runK {P : Program} {A bx : List Nat} {w : World} {s x : Sl} {size bytes : Nat} {t ty T : TypeId} {z : Value} {vs us : List (List Value)} {K : Value → World → Prop} (ht : P.underlying t = some (.slice T)) (hi : TI P T z size bytes) (hzs : z.cells.size = size) (hsz : 0 < size)
  (h : App A w s size T vs) (hA : ∀ b ∈ A,b < w.heap.size) (hx : Row [] w x size us) (h1 : ∀ u ∈ us.flatten,u.oneCell' = true) (hu : us ≠ [])
  (h63 : s.n + us.length ≤ maxLen) (hbytes : (s.n + us.length) * bytes ≤ 140737488355328) (hbx : ∀ b ∈ bx,b ∈ A)
  (k : ∀ s' w',Own A w' s' size T (vs ++ us) → Chg s.own w w' → (∀ b ∈ s'.blk,b ∈ s.own ∨ w.heap.size ≤ b) → K s'.v w') :
  RunK P (Builtin.append_ #[t,t] ty #[s.v,x.v]) w bx K := by
 obtain ⟨s',w',hr,ho,hc,hb⟩ := append_app (ty := ty) ht hi hzs hsz h hA hx h1 hu h63 hbytes
 refine ⟨_,_,hr,hc.noTouch _ (fun b hb hm => ?_),hc.size,k s' w' ho (hc.mono fun b hb => (List.mem_filter.1 hb).1) hb⟩
 have := (List.mem_filter.1 hm).2
 have := hbx b hb
 simp_all
theorem Own.avoid {A A' : List Nat} {w : World} {s : Sl} {size : Nat} {T : TypeId} {vs : List (List Value)} (h : Own A w s size T vs) (hA : ∀ b ∈ s.blk,b ∉ A') : Own A' w s size T vs :=
 ⟨h.len,h.cap,h.most,h.each,h.at_.imp_right fun ⟨g,cur,h1,_,h3⟩ => ⟨g,cur,h1,hA g (by simp [Sl.blk,h1]),h3⟩⟩
theorem Own.less {A A' : List Nat} {w : World} {s : Sl} {size : Nat} {T : TypeId} {vs : List (List Value)} (h : Own A w s size T vs) (hA : ∀ b ∈ A',b ∈ A) : Own A' w s size T vs :=
 h.avoid fun b hb hm => (h.blk b hb).1 (hA b hm)
theorem Own.other {A : List Nat} {w : World} {s : Sl} {size : Nat} {T S : TypeId} {vs : List (List Value)} (h : Own A w s size T vs) {B : Nat} {cs : List Value} (hB : Box w B S cs) (hne : T ≠ S) : B ∉ s.blk := by
 intro hm
 rcases h.at_ with e | ⟨g,cur,h1,_,h3,_⟩
 ·rw [e] at hm; simp [Sl.blk,Sl.nil] at hm
 ·simp [Sl.blk,h1] at hm; subst hm
  unfold Box at h3 hB; rw [h3] at hB; simp at hB; exact hne hB.2
theorem Own.cons {A : List Nat} {w : World} {s : Sl} {size : Nat} {T : TypeId} {vs : List (List Value)} (h : Own A w s size T vs) {B : Nat} (hB : B ∉ s.blk) : Own (B :: A) w s size T vs :=
 h.avoid fun b hb hm => by
  rcases List.mem_cons.1 hm with e | hm
  ·subst e; exact hB hb
  ·exact (h.blk b hb).1 hm
theorem Own.keep {A F : List Nat} {w w' : World} {s : Sl} {size : Nat} {T : TypeId} {vs : List (List Value)} (h : Own A w s size T vs) (c : Chg F w w') (hF : ∀ b ∈ s.blk,b ∉ F) : Own A w' s size T vs :=
 ⟨h.len,h.cap,h.most,h.each,h.at_.imp_right fun ⟨g,cur,h1,h2,h3,h4⟩ => ⟨g,cur,h1,h2,h3.keep c (hF g (by simp [Sl.blk,h1])),h4⟩⟩
theorem Row.keep {A F : List Nat} {w w' : World} {s : Sl} {size : Nat} {vs : List (List Value)} (h : Row A w s size vs) (c : Chg F w w') (hF : ∀ b ∈ s.blk,b ∉ F) : Row A w' s size vs :=
 ⟨h.len,h.cap,h.most,fun i hi => by
  obtain ⟨p,h1,h2,h3,h4⟩ := h.at_ i hi
  exact ⟨p,h1,h2,h3.chg c (by rw [Addr.add_block]; exact hF _ (by simp [Sl.blk,h1])),h4⟩⟩
theorem Own.tail {A : List Nat} {w : World} {s : Sl} {size : Nat} {T : TypeId} {vs : List (List Value)} (h : Own A w s size T vs) : ∀ b ∈ s.own,b ∉ A := fun b hb => (h.blk b (Sl.own_blk hb)).1
end
section
open Go.RowKit
theorem ones_ac (p : Str × Str) : ∀ u ∈ [ac p].flatten,u.oneCell' = true := by intro u hu; simp [ac] at hu; rcases hu with rfl | rfl <;> rfl
theorem ones_acs (l : List (Str × Str)) : ∀ u ∈ (l.map ac).flatten,u.oneCell' = true := by
 intro u hu
 obtain ⟨c,hc,hu⟩ := List.mem_flatten.1 hu
 obtain ⟨p,_,rfl⟩ := List.mem_map.1 hc
 exact ones_ac p u (by simpa using hu)
def Nur (A : List Nat) (w : World) (s : Sl) (ts : List T) : Prop :=
 ∃ ps : List (Sl × Sl),ps.length = ts.length ∧ Own A w s 5 28 (List.zipWith tc ts ps) ∧ ∀ (i : Nat) (t : T) (p : Sl × Sl),ts[i]? = some t → ps[i]? = some p → RdT (s.blk ++ A) w t p.1 p.2
theorem Nur.nil (A : List Nat) (w : World) : Nur A w Sl.nil [] := ⟨[],rfl,Own.nil _ _ _ _,by simp⟩
theorem Nur.chg {A F : List Nat} {w w' : World} {s : Sl} {ts : List T} (h : Nur A w s ts) (c : Chg F w w') (hF : ∀ b ∈ F,b ∈ A) : Nur A w' s ts := by
 obtain ⟨ps,hl,ho,hr⟩ := h
 exact ⟨ps,hl,ho.chg c hF,fun i t p ht hp => (hr i t p ht hp).chg c (fun b hb => List.mem_append_right _ (hF b hb))⟩
theorem Nur.ext {A : List Nat} {w w' : World} {s : Sl} {ts : List T} (h : Nur A w s ts) (c : Ext w w') : Nur A w' s ts := h.chg c (by simp)
theorem Nur.less {A A' : List Nat} {w : World} {s : Sl} {ts : List T} (h : Nur A w s ts) (hA : ∀ b ∈ A',b ∈ A) : Nur A' w s ts := by
 obtain ⟨ps,hl,ho,hr⟩ := h
 exact ⟨ps,hl,ho.less hA,fun i t p ht hp => (hr i t p ht hp).less (fun b hb => by
  rcases List.mem_append.1 hb with hb | hb
  ·exact List.mem_append_left _ hb
  ·exact List.mem_append_right _ (hA b hb))⟩
theorem Nur.rd {A : List Nat} {w : World} {s sa : Sl} {ts : List T} (h : Nur A w s ts) {k : Int} {n x : Str} {ats : List (Str × Str)} (ha : Row A w sa 2 (ats.map ac)) : RdT A w (.node k n x ats ts) sa s := by
 obtain ⟨ps,hl,ho,hr⟩ := h
 exact .mk ps ha hl ho.row (fun i t p ht hp => (hr i t p ht hp).less (fun b hb => List.mem_append_right _ hb))
end
section
open Go.RowKit
theorem place {w : World} (v n : Int) (hn : 0 < n) (hn63 : n ≤ 9223372036854775807) : Calls Tryz.prog 15 #[.int .i64 v,.int .i64 n] w (Ret fun u w' => Ext w w' ∧ u = .int .i64 (v.emod n)) := by
 refine law00_Place.ok _ _ ?_
 unfold law00_Place.vc
 have h1 := Int.tmod_eq_emod (a := v) (b := n)
 have h2 := Int.emod_nonneg v (show n ≠ 0 by omega)
 have h3 := Int.emod_lt_of_pos v hn
 have h4 : (((if 0 ≤ v ∨ n ∣ v then 0 else n.natAbs : Nat)) : Int) = 0 ∨ (((if 0 ≤ v ∨ n ∣ v then 0 else n.natAbs : Nat)) : Int) = n := by
  split
  ·exact .inl rfl
  ·right; omega
 generalize (((if 0 ≤ v ∨ n ∣ v then 0 else n.natAbs : Nat)) : Int) = q at h1 h4
 refine ⟨by omega,fun h => ⟨⟨by omega,by omega⟩,Chg.refl _ _,?_⟩,fun h => ⟨Chg.refl _ _,?_⟩⟩
 ·show Value.int .i64 _ = Value.int .i64 (v % n)
  rw [show v.tmod n + n = v % n by omega]
 ·show Value.int .i64 _ = Value.int .i64 (v % n)
  rw [show v.tmod n = v % n by omega]
end
section
open Go.RowKit
def ic (z : Int) : List Value := [.int .i64 z]
inductive Calm : T → Prop where
 |node (k : Int) (n x : Str) (ats : List (Str × Str)) (ks : List T) : (∀ p ∈ ats,p.1 ≠ [122,122]) → (∀ u ∈ ks,Calm u) → Calm (.node k n x ats ks)
structure Sprout (d : Nat) (t : T) : Prop where
 ok : nodeOk t = true
 kind : 2 ≤ t.kind ∧ t.kind ≤ 4
 deep : t.depth ≤ d
 few : t.bulk ≤ 15 * t.size
 calm : Calm t
theorem Sprout.up {d e : Nat} {t : T} (h : Sprout d t) (he : d ≤ e) : Sprout e t := ⟨h.ok,h.kind,Nat.le_trans h.deep he,h.few,h.calm⟩
end
section
open Go.RowKit
structure Grove (us : List T) : Prop where
 ne : us ≠ []
 each : ∀ u ∈ us,Sprout 6 u
 few : (us.map T.size).sum ≤ 40
def grownT (us : List T) : T := .node 1 [] [] [] us
theorem Grove.check {us : List T} (h : Grove us) : (grownT us).check = true := by
 have hs : (grownT us).size ≤ 41 := by rw [T.size_eq]; have := h.few; simp only [grownT,T.kids]; omega
 have hd : (grownT us).depth ≤ 7 := by
  rw [T.depth_eq]
  have : ((grownT us).kids.map T.depth).foldr max 0 ≤ 6 := T.foldr_max_le fun x hx => by
   obtain ⟨u,hm,rfl⟩ := List.mem_map.1 hx
   exact (h.each u hm).deep
  omega
 have hk : kidsOk (grownT us) = true := by
  unfold kidsOk
  rw [List.all_eq_true]
  intro u hm
  have := h.each u hm
  have h3 := this.kind
  rw [this.ok,decide_eq_false (by omega : ¬ u.kind = 5)]; rfl
 unfold T.check
 rw [hk,decide_eq_true (show (grownT us).size ≤ 300 by omega),decide_eq_true (show (grownT us).depth ≤ 60 by omega)]; rfl
end
section
open Go.RowKit
theorem putAt_right (us : List Value) : ∀ (l m : List Value) (o : Nat),putAt (l ++ m) (l.length + o) us = l ++ putAt m o us := by
 induction us with
 |nil => intro l m o; rfl
 |cons u us ih =>
  intro l m o
  rw [putAt,putAt,List.set_append_right _ _ (by omega),show l.length + o - l.length = o by omega,Nat.add_assoc,ih]
theorem putAt_left (us : List Value) : ∀ (v m : List Value) (o : Nat),o + us.length ≤ v.length → putAt (v ++ m) o us = putAt v o us ++ m := by
 induction us with
 |nil => intro v m o _; rfl
 |cons u us ih =>
  intro v m o h
  simp only [List.length_cons] at h
  rw [putAt,putAt,List.set_append_left _ _ (by omega),ih _ _ _ (by simp; omega)]
theorem putAt_len (us : List Value) : ∀ (v : List Value) (o : Nat),(putAt v o us).length = v.length := by
 induction us with
 |nil => intro v o; rfl
 |cons u us ih => intro v o; rw [putAt,ih,List.length_set]
end
section
open Go.RowKit
theorem putAt_eq (us : List Value) : ∀ (cs : List Value) (o : Nat),o + us.length ≤ cs.length → putAt cs o us = cs.take o ++ us ++ cs.drop (o + us.length) := fun cs o h => by
 have e : cs = cs.take o ++ cs.drop o := (List.take_append_drop o cs).symm
 have hl : (cs.take o).length = o := by rw [List.length_take]; omega
 have h1 := putAt_right us (cs.take o) (cs.drop o) 0
 rw [hl,Nat.add_zero,← e] at h1
 have e2 : cs.drop o = (cs.drop o).take us.length ++ cs.drop (o + us.length) := by
  rw [← List.drop_drop,List.take_append_drop]
 have hl2 : ((cs.drop o).take us.length).length = us.length := by rw [List.length_take,List.length_drop]; omega
 have h2 := putAt_left us ((cs.drop o).take us.length) (cs.drop (o + us.length)) 0 (by omega)
 rw [← e2] at h2
 have h3 : ∀ (us v : List Value),v.length = us.length → putAt v 0 us = us := by
  have key : ∀ (us l v : List Value),v.length = us.length → putAt (l ++ v) l.length us = l ++ us := by
   intro us
   induction us with
   |nil => intro l v hv; rw [List.length_eq_zero_iff.1 hv]; rfl
   |cons u us ih =>
    intro l v hv
    cases v with
    |nil => simp at hv
    |cons x v =>
     rw [putAt]
     have e3 : (l ++ x :: v).set l.length u = (l ++ [u]) ++ v := by simp
     rw [e3]
     have := ih (l ++ [u]) v (by simpa using hv)
     simp only [List.length_append,List.length_singleton] at this
     rw [this]; simp
  intro us v hv
  exact key us [] v hv
 rw [h1,h2,h3 us _ hl2,List.append_assoc]
end
section
open Go.RowKit
structure En where
 par : Int
 dep : Nat
 pl : Nat
 t : T
def goE : List (Nat × (Nat → Int → Nat → Nat → List En)) → Nat → Int → Nat → Nat → List En
 |[],_,_,_,_ => []
 |(s,f) :: r,nx,p,d,i => f nx p d i ++ goE r (nx + s) p d (i + 1)
def T.ents : T → Nat → Int → Nat → Nat → List En
 |.node k n x ats ks,id,p,d,pl => ⟨p,d,pl,.node k n x ats ks⟩ :: goE (ks.attach.map fun ⟨t,_⟩ => (t.size,ents t)) (id + 1) id (d + 1) 0
def T.flat (t : T) : List En := t.ents 0 (-1) 0 0
def rem : List (T × Int × Nat × Nat) → Nat → List En
 |[],_ => []
 |(t,p,d,pl) :: r,id => t.ents id p d pl ++ rem r (id + t.size)
end
section
open Go.RowKit
theorem Own.one {A : List Nat} {w : World} {B : Nat} {S : TypeId} {cs : List Value} (h : Box w B S cs) (hA : B ∉ A) : Own A w (Sl.mk (some ⟨B,0,none⟩) 1 1) cs.length S [cs] :=
 ⟨rfl,Nat.le_refl _,by simp [maxLen],by simp,.inr ⟨B,cs,rfl,hA,h,by simp,by simp⟩⟩
def AtT (A : List Nat) (w : World) (p : Addr) (t : T) : Prop := p.block ∉ A ∧ ∃ sa sk : Sl,Cells w p (tc t (sa,sk)) ∧ RdT A w t sa sk
theorem AtT.chg {A F : List Nat} {w w' : World} {p : Addr} {t : T} (h : AtT A w p t) (c : Chg F w w') (hF : ∀ b ∈ F,b ∈ A) : AtT A w' p t := by
 obtain ⟨h1,sa,sk,h2,h3⟩ := h
 exact ⟨h1,sa,sk,h2.chg c fun hm => h1 (hF _ hm),RdT.chg c hF h3⟩
theorem AtT.ext {A : List Nat} {w w' : World} {p : Addr} {t : T} (h : AtT A w p t) (c : Ext w w') : AtT A w' p t := h.chg c (by simp)
theorem AtT.less {A A' : List Nat} {w : World} {p : Addr} {t : T} (h : AtT A w p t) (hA : ∀ b ∈ A',b ∈ A) : AtT A' w p t := by
 obtain ⟨h1,sa,sk,h2,h3⟩ := h
 exact ⟨fun hm => h1 (hA _ hm),sa,sk,h2,h3.less hA⟩
theorem AtT.lt {A : List Nat} {w : World} {p : Addr} {t : T} (h : AtT A w p t) : p.block < w.heap.size := by
 obtain ⟨_,sa,sk,h2,_⟩ := h
 have := World.block_lt_of_cell? w _ (h2 0 _ rfl)
 simpa [Addr.add_block] using this
theorem RdT.wide {A A' : List Nat} {w : World} {t : T} {sa sk : Sl} (h : RdT A w t sa sk) (hA : ∀ b ∈ A',b ∈ A ∨ w.heap.size ≤ b) : RdT A' w t sa sk := by
 have h2 : ∀ L : List Nat,(∀ b ∈ L,b ∈ A ∨ w.heap.size ≤ b) → RdT (L ++ A) w t sa sk := fun L => by
  induction L with
  |nil => intro _; exact h
  |cons b L ih =>
   intro hL
   have h3 := ih (fun b hb => hL b (List.mem_cons_of_mem _ hb))
   rcases hL b (List.mem_cons_self ..) with hm | hm
   ·refine h3.less fun x hx => ?_
    rcases List.mem_append.1 hx with hx | hx
    ·rcases List.mem_cons.1 hx with e | hx
     ·subst e; exact List.mem_append_right _ hm
     ·exact List.mem_append_left _ hx
    ·exact List.mem_append_right _ hx
   ·exact h3.fresh hm
 exact (h2 A' hA).less fun b hb => List.mem_append_left _ hb
theorem AtT.wide {A A' : List Nat} {w : World} {p : Addr} {t : T} (h : AtT A w p t) (hA : ∀ b ∈ A',b ∈ A ∨ w.heap.size ≤ b) : AtT A' w p t := by
 have hl := h.lt
 obtain ⟨h1,sa,sk,h2,h3⟩ := h
 exact ⟨fun hm => (hA _ hm).elim h1 (fun h => by omega),sa,sk,h2,h3.wide hA⟩
theorem cloneAttrs {A : List Nat} {w : World} {s : Sl} {l : List (Str × Str)} (h : Row A w s 2 (l.map ac)) (hb : l.length ≤ 1099511627776) :
  Calls Tryz.prog 35 #[s.v] w (Ret fun v w' => Ext w w' ∧ ∃ s' : Sl,v = s'.v ∧ Own (List.range w.heap.size) w' s' 2 79 (l.map ac)) := by
 refine slices_Clone__api_Attr_api_Attr_.ok _ ?_
 unfold slices_Clone__api_Attr_api_Attr_.vc
 have hl := h.len
 simp only [List.length_map] at hl
 refine ⟨fun hn => ⟨Chg.refl _ _,Sl.nil,rfl,?_⟩,fun hn w1 B hN hE hB => ?_⟩
 ·have : l = [] := by
   cases l with
   |nil => rfl
   |cons x r =>
    obtain ⟨p,hp,_⟩ := h.at_ 0 (by simp)
    rw [hp] at hn; simp at hn
  subst this; exact Own.nil _ _ _ _
 ·have hown : Own (List.range w.heap.size) w1 (Sl.mk (some ⟨B,0,none⟩) 0 0) 2 79 [] :=
   ⟨rfl,Nat.le_refl _,by simp,by simp,.inr ⟨B,[],rfl,by have := hN.ge; simp; omega,hB,by simp,by simp⟩⟩
  cases hx : l with
  |nil =>
   have e := append_none (P := Tryz.prog) (w := w1) (s := Sl.mk (some ⟨B,0,none⟩) 0 0) (x := s) (t := 25) (ty := 25) Tryz.underlying25 ti_79 (Nat.le_refl _) (by rw [hl,hx]; rfl)
   exact ⟨_,_,e,fun b hb => by simp at hb,Nat.le_refl _,_,rfl,hE,_,rfl,hown⟩
  |cons x r =>
   rw [← hx]
   refine App.runK Tryz.underlying25 ti_79 rfl (by decide) (.inl hown) (fun b hb => Nat.lt_of_lt_of_le (List.mem_range.1 hb) hE.size) ((h.ext hE).less (by simp)) (ones_acs l) (by rw [hx]; simp) (by simp [maxLen]; omega) (by simp; omega) (by simp) fun s' w' ho hc hb => ⟨s',rfl,?_,s',rfl,by simpa using ho⟩
   exact hE.more (hc.mono (by simp [Sl.own]))
def T.hAt (t : T) (i : Nat) : Nat := (t.flat.getD i ⟨0,0,0,T.nul⟩).t.depth
end
section
open Go.RowKit
def nc (k : Nat) : List Value := [.int .i64 (k : Int)]
end
section
open Go.RowKit
theorem T.ext {t u : T} (h1 : t.kind = u.kind) (h2 : t.name = u.name) (h3 : t.text = u.text) (h4 : t.attrs = u.attrs) (h5 : t.kids = u.kids) : t = u := by
 cases t; cases u; cases h1; cases h2; cases h3; cases h4; cases h5; rfl
end
section
open Go.RowKit
theorem drop_at {α : Type} (l : List α) (d : α) {k : Nat} (h : k < l.length) : l.drop k = l.getD k d :: l.drop (k + 1) := by
 rw [List.drop_eq_getElem_cons h,List.getD_eq_getElem?_getD,List.getElem?_eq_getElem h]; rfl
end
section
open Go.RowKit
theorem Row.int {A : List Nat} {w : World} {s : Sl} {l : List Int} (h : Row A w s 1 (l.map ic)) {k : Nat} (hk : k < l.length) : ∃ p,s.a = some p ∧ w.cell? (p.add (k * 1)) = some (.int .i64 (l.getD k 0)) := by
 obtain ⟨p,hp,_,hc,_⟩ := h.at_ k (by simpa using hk)
 refine ⟨p,hp,?_⟩
 have e : (l.map ic).getD k [] = ic (l.getD k 0) := by simp [List.getD_eq_getElem?_getD,hk]
 rw [e] at hc
 have := hc 0 _ rfl
 rwa [Addr.add_zero'] at this
theorem clearK {P : Program} {w : World} {bx : List Nat} {t ty T : TypeId} {z : Value} {size bytes : Nat} {s : Sl} {g o : Nat} {cur : List Value} {K : World → Prop} (ht : P.underlying t = some (.slice T)) (hi : TI P T z size bytes) (hzs : z.cells.size = size) (hs : s.a = some ⟨g,o,none⟩) (hB : Box w g T cur) (hfit : o + s.n * size ≤ cur.length) (hz1 : ∀ v ∈ (Builtin.zeroCells z.cells s.n).toList,v.oneCell' = true) (hbx : g ∉ bx)
  (k : ∀ w' zz,Chg [g] w w' → zz.length = s.n * size → Box w' g T (putAt cur o zz) → K w') : RunN P (Builtin.clear_ #[t] ty #[s.v]) w bx K := by
 have hzl : (Builtin.zeroCells z.cells s.n).toList.length = s.n * size := by rw [Array.length_toList,size_zeroCells,hzs]
 have hst := run_storeCells_box (P := P) o (Builtin.zeroCells z.cells s.n).toList 0 hB (by rw [hzl]; simpa using hfit) hz1
 have hc := setCells_chg g (Builtin.zeroCells z.cells s.n).toList w o
 rw [Nat.add_zero] at hst
 refine ⟨setCells w g o (Builtin.zeroCells z.cells s.n).toList,?_,hc.noTouch _ (fun b hb hm => by simp at hm; exact hbx (hm ▸ hb)),hc.size,k _ _ hc hzl (setCells_box _ hB)⟩
 unfold Sl.v
 rw [hs]
 cases hn : s.n with
 |zero =>
  have e : (Builtin.zeroCells z.cells 0).toList = [] := by simp [Builtin.zeroCells]
  rw [e]
  simp [Builtin.clear_,run_underlying ht,setCells]
 |succ n =>
  rw [hn] at hst
  simp [Builtin.clear_,run_underlying ht,hi.zeroValue,hst,Result.andThen]
end
section
set_option maxRecDepth 10000
open Go.RowKit
theorem slicesDelete_slot {A : List Nat} {w : World} {s : Sl} {vs : List (List Value)} {i : Nat} (ho : Own A w s 4 125 vs) (h1 : ∀ u ∈ vs.flatten,u.oneCell' = true) (hi : i < vs.length) (hb : vs.length ≤ 1000000000) :
  Calls Tryz.prog 179 #[s.v,.int .i64 (i : Int),.int .i64 ((i : Int) + 1)] w (Ret fun v w' => Chg s.blk w w' ∧ ∃ s' : Sl,v = s'.v ∧ Own A w' s' 4 125 (vs.take i ++ vs.drop (i + 1)) ∧ ∀ b ∈ s'.blk,b ∈ s.blk) := by
 refine slices_Delete__format_slot_format_slot_.ok _ _ _ ?_
 unfold slices_Delete__format_slot_format_slot_.vc
 have hn := ho.len
 have hcap := ho.cap
 have hmost := ho.most
 have hmo : maxLen = 9223372036854775807 := rfl
 have hE3 : (i : Int).toNat = i := Int.toNat_natCast i
 have hE4 : ((i : Int) + 1).toNat = i + 1 := by omega
 refine ⟨⟨by omega,by omega,by omega,by omega⟩,fun h => by omega,fun _ w9 c9 => ⟨⟨by omega,by omega⟩,⟨by omega,by omega⟩,fun w10 c10 => ?_⟩⟩
 have c := c9.trans c10
 obtain ⟨g,cur,hga,hgA,hgB,hgl,hgt⟩ : ∃ g cur,s.a = some ⟨g,0,none⟩ ∧ g ∉ A ∧ Box w10 g 125 cur ∧ cur.length = s.c * 4 ∧ cur.take (s.n * 4) = vs.flatten := by
  rcases (ho.ext c).at_ with e | e
  ·rw [e] at hn; simp [Sl.nil] at hn; omega
  ·exact e
 have hgs : s.blk = [g] := by simp [Sl.blk,hga]
 rw [hE3,hE4]
 have hcut : (Sl.cut s 4 0 i s.c) = ⟨some ⟨g,0,none⟩,i,s.c⟩ := by
  unfold Sl.cut; rw [hga]; simp [Addr.add_lit]
 obtain ⟨px,hpx⟩ : ∃ p,(Sl.cut s 4 (i + 1) s.n s.c).a = some p := by unfold Sl.cut; rw [hga]; simp only [Option.map_some]; split <;> exact ⟨_,rfl⟩
 have hr := (ho.ext c).row.cut (i + 1) s.n s.c (by omega) (Nat.le_refl _) hcap (Nat.le_refl _)
 have hxn : (Sl.cut s 4 (i + 1) s.n s.c).n = s.n - (i + 1) := rfl
 have hxv : Sl.v (Sl.cut s 4 (i + 1) s.n s.c) = .slice (some px) (s.n - (i + 1)) (s.c - (i + 1)) := by unfold Sl.v; rw [hpx]; rfl
 have hxf := hr.flat hpx
 have htk : ((vs.drop (i + 1)).take (s.n - (i + 1))) = vs.drop (i + 1) := List.take_of_length_le (by rw [List.length_drop]; omega)
 rw [htk] at hxf
 rw [hcut,hxv]
 obtain ⟨ti,hi0,hz,hsz,hbb⟩ := ti_125
 have hg : w10.heap[g]? = some (.cells cur.toArray 125 (0,0)) := hgB
 have hxl : (vs.drop (i + 1)).flatten.length = (s.n - (i + 1)) * ti.size := by rw [hxf.1,hsz,hxn]
 have hfit : i * ti.size + (vs.drop (i + 1)).flatten.length ≤ cur.toArray.size := by
  rw [hxl,hsz,← Nat.add_mul]; simp only [List.size_toArray]; rw [hgl]; exact Nat.mul_le_mul_right _ (by omega)
 have hrun := run_append_room (P := Tryz.prog) w10 71 71 125 ti Tryz.underlying71 hi0 g i s.c cur.toArray hg px (s.n - (i + 1)) (s.c - (i + 1)) (vs.drop (i + 1)).flatten hxl hxf.2
  (fun u hu => h1 u (by rw [← List.take_append_drop (i + 1) vs,List.flatten_append]; exact List.mem_append_right _ hu)) (by omega) hfit
 rw [hsz] at hrun
 have hc2 := setRow_chg w10 g ((cur.toArray.toList.take (i * 4) ++ (vs.drop (i + 1)).flatten ++ cur.toArray.toList.drop (i * 4 + (vs.drop (i + 1)).flatten.length)).toArray)
 have hB2 : Box (w10.setRow g ((cur.toArray.toList.take (i * 4) ++ (vs.drop (i + 1)).flatten ++ cur.toArray.toList.drop (i * 4 + (vs.drop (i + 1)).flatten.length)).toArray)) g 125 (cur.take (i * 4) ++ (vs.drop (i + 1)).flatten ++ cur.drop (i * 4 + (vs.drop (i + 1)).flatten.length)) := by
  unfold Box; exact setRow_heap w10 g cur.toArray _ _ _ hg
 have hm : i + (s.n - (i + 1)) = s.n - 1 := by omega
 rw [hm] at hrun
 have hdl : (vs.drop (i + 1)).flatten.length = (s.n - (i + 1)) * 4 := by rw [hxl,hsz]
 have hcl : (cur.take (i * 4) ++ (vs.drop (i + 1)).flatten ++ cur.drop (i * 4 + (vs.drop (i + 1)).flatten.length)).length = s.c * 4 := by
  simp only [List.length_append,List.length_take,List.length_drop,hdl,hgl]; omega
 refine ⟨_,_,hrun,hc2.noTouch _ (by simp),hc2.size,⟨some ⟨g,0,none⟩,s.n - 1,s.c⟩,rfl,⟨by omega,by simp only; omega,by simp only; omega⟩,fun w13 c13 => ?_⟩
 have e1 : (((s.n - 1 : Nat) : Int)).toNat = s.n - 1 := Int.toNat_natCast _
 have e2 : ((s.n : Nat) : Int).toNat = s.n := Int.toNat_natCast _
 have hnc : ¬ s.c = s.n - 1 := by omega
 have hc1 : (Sl.cut (Sl.mk (some ⟨g,0,none⟩) (s.n - 1) s.c) 4 (s.n - 1) s.n s.c) = ⟨some ⟨g,(s.n - 1) * 4,none⟩,s.n - (s.n - 1),s.c - (s.n - 1)⟩ := by
  unfold Sl.cut; simp [Addr.add_lit,hnc]
 rw [e1,e2,hc1]
 have hB3 := hB2.ext c13
 refine clearK Tryz.underlying71 ti_125 rfl rfl hB3 (by rw [hcl]; simp only; omega) (by
  have : s.n - (s.n - 1) = 1 := by omega
  simp only [this]
  intro v hv
  simp only [Builtin.zeroCells,Array.toList_map,List.mem_map] at hv
  obtain ⟨q,_,rfl⟩ := hv
  have hq : ∀ q : Nat,q < 4 → ((Value.agg #[Value.int IntKind.i64 0,Value.string (Bs []),Sl.nil.v,Value.bool false]).cells[q]!).oneCell' = true := by
   intro q hq
   have : q = 0 ∨ q = 1 ∨ q = 2 ∨ q = 3 := by omega
   rcases this with h | h | h | h <;> (subst h; rfl)
  exact hq _ (Nat.mod_lt _ (by decide))) (by simp) fun w15 zz c15 hzl hB15 => ?_
 simp only at hzl
 refine ⟨?_,⟨some ⟨g,0,none⟩,s.n - 1,s.c⟩,rfl,⟨by simp only [List.length_append,List.length_take,List.length_drop]; omega,by simp only; omega,hmost,fun u hu => ?_,.inr ⟨g,_,rfl,hgA,hB15,?_,?_⟩⟩,fun b hb => by rw [hgs]; simpa [Sl.blk] using hb⟩
 ·rw [hgs]; exact (((c.mono (by simp)).trans hc2).trans (c13.mono (by simp))).trans c15
 ·rcases List.mem_append.1 hu with hu | hu
  ·exact ho.each u (List.mem_of_mem_take hu)
  ·exact ho.each u (List.mem_of_mem_drop hu)
 ·rw [putAt_len,hcl]
 ·rw [putAt_eq zz _ _ (by rw [hcl,hzl]; omega)]
  have hPl : (vs.take i).flatten.length = i * 4 := by
   rw [flatten_len _ (fun u hu => ho.each u (List.mem_of_mem_take hu)),List.length_take]; omega
  have htc : cur.take (i * 4) = (vs.take i).flatten := by
   have e : (cur.take (s.n * 4)).take (i * 4) = cur.take (i * 4) := by rw [List.take_take]; congr 1; omega
   rw [← e,hgt,← List.take_append_drop i vs,List.flatten_append,← hPl,List.take_left]
   simp
  rw [htc,List.flatten_append,List.append_assoc]
  have hl2 : ((vs.take i).flatten ++ (vs.drop (i + 1)).flatten).length = (s.n - 1) * 4 := by rw [List.length_append,hPl,hdl]; omega
  show List.take ((s.n - 1) * 4) _ = _
  rw [← hl2,List.take_left,List.take_left]
end
section
open Go.RowKit Go.MapKept
structure MapIs {κ : Type} (f : κ → Value) (d : TypeDesc) (w : World) (B : Nat) (m : List (κ × Value)) : Prop where
 at_ : ∃ es clock,w.heap[B]? = some (.map es clock) ∧ es.toList.map (fun e => (e.key,e.val)) = m.map fun p => (f p.1,p.2)
theorem MapIs.lt {κ : Type} {f : κ → Value} {d : TypeDesc} {w : World} {B : Nat} {m : List (κ × Value)} (h : MapIs f d w B m) : B < w.heap.size := by
 obtain ⟨es,clock,h1,_⟩ := h.at_
 exact (Array.getElem?_eq_some_iff.1 h1).1
theorem MapIs.chg {κ : Type} {f : κ → Value} {d : TypeDesc} {w w' : World} {F : List Nat} {B : Nat} {m : List (κ × Value)} (h : MapIs f d w B m) (c : Chg F w w') (hB : B ∉ F) : MapIs f d w' B m := by
 have hl := h.lt
 obtain ⟨es,clock,h1,h2⟩ := h.at_
 exact ⟨es,clock,by rw [c.block B hl hB]; exact h1,h2⟩
theorem MapIs.ext {κ : Type} {f : κ → Value} {d : TypeDesc} {w w' : World} {B : Nat} {m : List (κ × Value)} (h : MapIs f d w B m) (c : Ext w w') : MapIs f d w' B m := h.chg c (by simp)
variable {κ : Type} [DecidableEq κ]
def mget (m : List (κ × Value)) (k : κ) : Option Value := (m.find? fun p => decide (p.1 = k)).map (·.2)
def mput (m : List (κ × Value)) (k : κ) (v : Value) : List (κ × Value) :=
 match m with
 |[] => [(k,v)]
 |p :: r => if p.1 = k then (k,v) :: r else p :: mput r k v
theorem find_of {f : κ → Value} {d : TypeDesc} (hf : ∀ x,IsKey d (f x)) (hi : ∀ x y,f x = f y → x = y) (k : κ) : ∀ (es : List MapEntry) (m : List (κ × Value)) (i : Nat),es.map (fun e => (e.key,e.val)) = m.map (fun p => (f p.1,p.2)) →
  (Instr.findNow d (f k) es i = some none ∧ mget m k = none ∧ (∀ v,m ++ [(k,v)] = mput m k v)) ∨ ∃ j v,Instr.findNow d (f k) es i = some (some (i + j,v)) ∧ mget m k = some v ∧ j < es.length ∧ (∃ e,es[j]? = some e ∧ e.key = f k) ∧ ∀ u,(es.modify j fun e => { e with key := f k,val := u }).map (fun e => (e.key,e.val)) = (mput m k u).map fun p => (f p.1,p.2)
 |[],[],i,_ => .inl ⟨rfl,rfl,fun _ => rfl⟩
 |[],_ :: _,i,h => by cases h
 |_ :: _,[],i,h => by cases h
 |e :: es,p :: m,i,h => by
  simp only [List.map_cons,List.cons.injEq,Prod.mk.injEq] at h
  obtain ⟨⟨hk,hv⟩,hr⟩ := h
  obtain ⟨r,hs,hiff⟩ := sameNow_of_keys (hf k) (hk ▸ hf p.1 : IsKey d e.key)
  cases r with
  |true =>
   have e1 : p.1 = k := hi _ _ (by rw [← hk]; exact (hiff.1 rfl).symm)
   refine .inr ⟨0,e.val,by simp [Instr.findNow,hs],by simp [mget,e1,hv],by simp,⟨e,rfl,by rw [hk,e1]⟩,fun u => ?_⟩
   simp [mput,e1,hr]
  |false =>
   have e1 : ¬ p.1 = k := fun q => by have := hiff.2 (by rw [hk,q]); cases this
   rcases find_of hf hi k es m (i + 1) hr with ⟨h1,h2,h3⟩ | ⟨j,v,h1,h2,h3,h4,h5⟩
   ·refine .inl ⟨by simp [Instr.findNow,hs,h1],?_,fun v => ?_⟩
    ·have : mget (p :: m) k = mget m k := by simp [mget,e1]
     rw [this,h2]
    ·rw [mput,if_neg e1,← h3 v]; rfl
   ·refine .inr ⟨j + 1,v,by simp [Instr.findNow,hs,h1]; omega,?_,by simp; omega,by simpa using h4,fun u => ?_⟩
    ·have : mget (p :: m) k = mget m k := by simp [mget,e1]
     rw [this,h2]
    ·rw [mput,if_neg e1]
     simp only [List.modify_succ_cons,List.map_cons]
     rw [h5 u,hk,hv]
end
section
open Go.RowKit
def insAt {α : Type} (i : Nat) (u : α) (l : List α) : List α := l.take i ++ u :: l.drop i
inductive I where
 |node (id kind : Int) (name text : Str) (attrs : List (Str × Str)) (kids : List I)
structure Rec where
 id : Int
 par : Int
 kind : Int
 name : Str
 text : Str
 attrs : List (Str × Str)
 kids : List Int
theorem inj_of_nodup {α β : Type} {f : α → β} : ∀ {l : List α},(l.map f).Nodup → ∀ {x y : α},x ∈ l → y ∈ l → f x = f y → x = y
 |[],_,_,_,h,_,_ => by cases h
 |a :: r,hn,x,y,hx,hy,e => by
  rw [List.map_cons] at hn
  obtain ⟨h1,h2⟩ := List.nodup_cons.1 hn
  rcases List.mem_cons.1 hx with hx | hx
  ·rcases List.mem_cons.1 hy with hy | hy
   ·rw [hx,hy]
   ·exact absurd (by rw [← hx,e]; exact List.mem_map_of_mem hy) h1
  ·rcases List.mem_cons.1 hy with hy | hy
   ·exact absurd (by rw [← hy,← e]; exact List.mem_map_of_mem hx) h1
   ·exact inj_of_nodup h2 hx hy e
namespace I
def id : I → Int | .node i _ _ _ _ _ => i
def kind : I → Int | .node _ k _ _ _ _ => k
def name : I → Str | .node _ _ n _ _ _ => n
def text : I → Str | .node _ _ _ x _ _ => x
def attrs : I → List (Str × Str) | .node _ _ _ _ a _ => a
def kids : I → List I | .node _ _ _ _ _ ks => ks
theorem ind {P : I → Prop} (h : ∀ i k n x ats ks,(∀ t ∈ ks,P t) → P (.node i k n x ats ks)) : ∀ t,P t
 |.node i k n x ats ks => h i k n x ats ks fun t _ => ind h t
theorem ind' {P : I → Prop} (h : ∀ t,(∀ u ∈ t.kids,P u) → P t) : ∀ t,P t := ind fun _ _ _ _ _ _ ih => h _ ih
def toT : I → T | .node _ k n x a ks => .node k n x a (ks.attach.map fun ⟨u,_⟩ => toT u)
def rec0 (s : I) (p : Int) : Rec := ⟨s.id,p,s.kind,s.name,s.text,s.attrs,s.kids.map I.id⟩
def all : I → Int → Nat → List (I × Int × Nat) | .node i k n x a ks,p,d => (.node i k n x a ks,p,d) :: (ks.attach.map fun ⟨u,_⟩ => all u i (d + 1)).flatten
theorem all_eq (s : I) (p : Int) (d : Nat) : s.all p d = (s,p,d) :: s.kids.flatMap fun u => u.all s.id (d + 1) := by
 cases s with
 |node i k n x a ks =>
  rw [all,List.flatMap]
  congr 2
  exact List.attach_map_val (f := fun u => all u i (d + 1))
def recs (s : I) (p : Int) : List Rec := (s.all p 1).map fun e => e.1.rec0 e.2.1
theorem map_flatMap_congr {α β γ : Type} {f : β → γ} {g : α → List β} {h : α → List γ} : ∀ {l : List α},(∀ x ∈ l,(g x).map f = h x) → (l.flatMap g).map f = l.flatMap h
 |[],_ => rfl
 |x :: r,e => by
  rw [List.flatMap_cons,List.flatMap_cons,List.map_append,e x (by simp),map_flatMap_congr (fun y hy => e y (by simp [hy]))]
theorem all_recs : ∀ (s : I) (p : Int) (d : Nat),((s.all p d).map fun e => e.1.rec0 e.2.1) = s.recs p := ind' fun s ih p d => by
 unfold recs
 rw [all_eq,all_eq s p 1,List.map_cons,List.map_cons,map_flatMap_congr (fun u hu => ih u hu s.id (d + 1)),map_flatMap_congr (fun u hu => ih u hu s.id (1 + 1))]
theorem recs_eq (s : I) (p : Int) : s.recs p = s.rec0 p :: s.kids.flatMap fun u => u.recs s.id := by
 unfold recs
 rw [all_eq,List.map_cons,map_flatMap_congr (fun u _ => all_recs u s.id (1 + 1))]; rfl
def ids (s : I) : List Int := (s.recs 0).map Rec.id
theorem recs_ids : ∀ (s : I) (p q : Int),(s.recs p).map Rec.id = (s.recs q).map Rec.id := fun s p q => by
 rw [recs_eq,recs_eq,List.map_cons,List.map_cons]; rfl
theorem recs_id (s : I) (p : Int) : (s.recs p).map Rec.id = s.ids := recs_ids s p 0
def ins : I → Int → Nat → I → I | .node id k n x a ks,p,i,u => if id = p then .node id k n x a (insAt i u ks) else .node id k n x a (ks.attach.map fun ⟨v,_⟩ => ins v p i u)
def insK (p : Int) (i : Nat) (k : Int) (r : Rec) : Rec := if r.id = p then { r with kids := insAt i k r.kids } else r
theorem all_ids (s : I) (p : Int) (d : Nat) : (s.all p d).map (fun e => e.1.id) = s.ids := by
 rw [← recs_id s p,← all_recs s p d,List.map_map]; rfl
def insE (p : Int) (i : Nat) (u : I) (e : I × Int × Nat) : I × Int × Nat := (e.1.ins p i u,e.2)
theorem all_inj {s : I} {p : Int} {d : Nat} (hn : s.ids.Nodup) {e f : I × Int × Nat} (he : e ∈ s.all p d) (hf : f ∈ s.all p d) (h : e.1.id = f.1.id) : e = f := by
 rw [← all_ids s p d] at hn
 exact inj_of_nodup hn he hf h
theorem mem_all {s : I} {p : Int} {d : Nat} {e : I × Int × Nat} (h : e ∈ s.all p d) : e.1.id ∈ s.ids := by
 rw [← all_ids s p d]; exact List.mem_map_of_mem (f := fun e : I × Int × Nat => e.1.id) h
end I
end
section
open Go.RowKit
def look (L : List Rec) (x : Int) : Option Rec := L.find? fun r => decide (r.id = x)
namespace I
def find (s : I) (x : Int) : Option (I × Int × Nat) := (s.all (-1) 1).find? fun e => decide (e.1.id = x)
theorem find_some {s : I} {x : Int} {e : I × Int × Nat} (h : s.find x = some e) : e ∈ s.all (-1) 1 ∧ e.1.id = x :=
 ⟨List.mem_of_find?_eq_some h,by simpa using List.find?_some h⟩
theorem find_none {s : I} {x : Int} : s.find x = none ↔ x ∉ s.ids := by
 rw [← all_ids s (-1) 1]
 unfold find
 rw [List.find?_eq_none]
 simp
theorem find_of {s : I} (hn : s.ids.Nodup) {e : I × Int × Nat} (h : e ∈ s.all (-1) 1) : s.find e.1.id = some e := by
 cases hl : s.find e.1.id with
 |none => exact absurd (mem_all h) (find_none.1 hl)
 |some q =>
  obtain ⟨h1,h2⟩ := find_some hl
  rw [all_inj hn h1 h h2]
theorem all_up : ∀ (s : I) (p : Int) (d : Nat),∀ e ∈ s.all p d,e = (s,p,d) ∨ ∃ f ∈ s.all p d,f.1.id = e.2.1 ∧ f.2.2 + 1 = e.2.2 ∧ e.1 ∈ f.1.kids := ind' fun s ih p d e he => by
 rw [all_eq] at he ⊢
 rcases List.mem_cons.1 he with rfl | he
 ·exact .inl rfl
 ·right
  obtain ⟨u,hu,heu⟩ := List.mem_flatMap.1 he
  rcases ih u hu s.id (d + 1) e heu with rfl | ⟨f,hf,h⟩
  ·exact ⟨(s,p,d),List.mem_cons_self ..,rfl,rfl,hu⟩
  ·exact ⟨f,List.mem_cons_of_mem _ (List.mem_flatMap.2 ⟨u,hu,hf⟩),h⟩
def nodes (s : I) : List I := (s.all 0 0).map fun e => e.1
structure Okay (s : I) : Prop where
 check : s.toT.check = true
 nodup : s.ids.Nodup
 rng : ∀ x ∈ s.ids,0 ≤ x ∧ x ≤ 1048576
 root : s.id = 0
def holds (a b : Int) : Bool := decide (a = 1) || (decide (a = 2) && !(decide (b = 5)))
mutual
def num : T → Nat → I
 |.node k n x a ks,i => .node (i : Int) k n x a (numL ks (i + 1))
def numL : List T → Nat → List I
 |[],_ => []
 |t :: r,i => num t i :: numL r (i + t.size)
end
end I
end
section
open Go.RowKit Go.MapKept
structure Nd where
 r : Rec
 sa : Sl
 sk : Sl
section
variable {A : List Nat} {w w' : World} {D : Nat} {l : Sl} {M : Nat} {m : List (Int × Value)} {X : List Nd}
end
section
variable {A : List Nat} {w w' : World} {D : Nat} {R : I}
end
end
section
open Go.RowKit Go.MapKept
theorem up {R : I} (hR : R.Okay) {e : I × Int × Nat} (he : e ∈ R.all (-1) 1) : (e = (R,-1,1)) ∨ ∃ f,R.find e.2.1 = some f ∧ f.1.id = e.2.1 ∧ f.2.2 + 1 = e.2.2 ∧ e.1 ∈ f.1.kids := by
 rcases I.all_up R (-1) 1 e he with h | ⟨f,hf,h1,h2,h3⟩
 ·exact .inl h
 ·exact .inr ⟨f,by rw [← h1]; exact I.find_of hR.nodup hf,h1,h2,h3⟩
section
variable {A : List Nat} {w w' : World} {D : Nat} {R : I}
end
end
section
open Go.RowKit Go.MapKept
structure Mod (A : List Nat) (w w' : World) : Prop where
 os : w'.os = w.os
 tape : w'.tape = w.tape
 output : w'.output = w.output
 size : w.heap.size ≤ w'.heap.size
 block : ∀ k,k < w.heap.size → k ∈ A → w'.heap[k]? = w.heap[k]?
def Free (A : List Nat) (w : World) : List Nat := (List.range w.heap.size).filter fun b => !A.contains b
theorem mem_free {A : List Nat} {w : World} {b : Nat} : b ∈ Free A w ↔ b < w.heap.size ∧ b ∉ A := by simp [Free]
section
variable {A A' F : List Nat} {a b c w w' : World}
theorem Mod.of (h : Chg F a b) (hF : ∀ x ∈ F,x ∉ A) : Mod A a b := ⟨h.os,h.tape,h.output,h.size,fun k hk hA => h.block k hk fun hm => hF k hm hA⟩
theorem Mod.ext (h : Ext a b) : Mod A a b := Mod.of h (by simp)
theorem Mod.refl (A : List Nat) (w : World) : Mod A w w := Mod.ext (Chg.refl _ _)
theorem Mod.trans (h : Mod A a b) (k : Mod A b c) : Mod A a c := ⟨k.os.trans h.os,k.tape.trans h.tape,k.output.trans h.output,Nat.le_trans h.size k.size,fun i hi hA => (k.block i (Nat.lt_of_lt_of_le hi h.size) hA).trans (h.block i hi hA)⟩
theorem Mod.less (h : Mod A a b) (hA : ∀ x ∈ A',x ∈ A) : Mod A' a b := ⟨h.os,h.tape,h.output,h.size,fun k hk hm => h.block k hk (hA k hm)⟩
theorem Mod.chg (h : Mod A a b) : Chg (Free A a) a b := ⟨h.os,h.tape,h.output,h.size,fun k hk hm => h.block k hk (by
 by_cases hA : k ∈ A
 ·exact hA
 ·exact absurd (mem_free.2 ⟨hk,hA⟩) hm)⟩
theorem Mod.fresh (h : Ext a b) (k : Mod A b c) (hA : ∀ x,x < a.heap.size → x ∈ A) : Ext a c := ⟨k.os.trans h.os,k.tape.trans h.tape,k.output.trans h.output,Nat.le_trans h.size k.size,fun i hi _ => (k.block i (Nat.lt_of_lt_of_le hi h.size) (hA i hi)).trans (h.block i hi (by simp))⟩
theorem Own.mod {A0 : List Nat} {s : Sl} {size : Nat} {T : TypeId} {vs : List (List Value)} (h : Own A0 a s size T vs) (k : Mod A a b) (hs : ∀ x ∈ s.blk,x ∈ A) : Own A0 b s size T vs := h.keep k.chg fun x hx hm => (mem_free.1 hm).2 (hs x hx)
theorem Box.mod {B : Nat} {T : TypeId} {cs : List Value} (h : Box a B T cs) (k : Mod A a b) (hB : B ∈ A) : Box b B T cs := h.keep k.chg fun hm => (mem_free.1 hm).2 hB
theorem CallK.mod {P : Program} {f : FuncId} {args : Array Value} {bx : List Nat} {R K : Value → World → Prop}
  (h : Calls P f args w (Ret fun v w' => Mod A w w' ∧ R v w')) (hd : ∀ b ∈ bx,b ∈ A) (k : ∀ v w',Mod A w w' → R v w' → K v w') : CallK P f args w bx K :=
 Ret.mono h fun v w' ⟨he,hr⟩ => ⟨fun b hb hlt => he.block b hlt (hd b hb),he.size,k v w' he hr⟩
def Safe (A : List Nat) (w : World) (t : T) (sa sk : Sl) : Prop := RdT (Free A w) w t sa sk
theorem Safe.mod {t : T} {sa sk : Sl} (h : Safe A a t sa sk) (k : Mod A a b) : Safe A b t sa sk := by
 have h1 : RdT (Free A a) b t sa sk := RdT.chg k.chg (fun x hx => hx) h
 have h2 : RdT (Free A b) a t sa sk := RdT.wide h fun x hx => by
  have := mem_free.1 hx
  by_cases hlt : x < a.heap.size
  ·exact .inl (mem_free.2 ⟨hlt,this.2⟩)
  ·exact .inr (by omega)
 exact RdT.chg k.chg (fun x hx => by
  have h3 := mem_free.1 hx
  exact mem_free.2 ⟨Nat.lt_of_lt_of_le h3.1 k.size,h3.2⟩) h2
end
section
variable {A : List Nat} {w w1 w2 : World} {D : Nat} {l : Sl} {M : Nat} {m : List (Int × Value)} {X : List Nd}
end
end
section
open Go.RowKit
structure Sd where
 id : Int
 nm : Str
 ats : List (Str × Str)
 mar : Bool
 sa : Sl
instance : Inhabited Sd := ⟨⟨0,[],[],true,Sl.nil⟩⟩
def sdc (x : Sd) : List Value := [.int .i64 x.id,.string (Bs x.nm),x.sa.v,.bool x.mar]
structure FL (A : List Nat) (w : World) (B : Nat) (s : Sl) (X : List Sd) : Prop where
 box : Box w B 73 [s.v]
 out : B ∉ A
 row : Own A w s 4 125 (X.map sdc)
 ats : ∀ x ∈ X,Own A w x.sa 2 79 (x.ats.map ac) ∧ x.ats.length ≤ 1000
 few : X.length ≤ 1000000
 old : ∀ b ∈ A,b < w.heap.size
variable {A F : List Nat} {w w' : World} {B : Nat} {s : Sl} {X : List Sd}
theorem FL.chg (h : FL A w B s X) (c : Chg F w w') (hF : ∀ b ∈ F,b ∈ A) : FL A w' B s X :=
 ⟨h.box.keep c fun hm => h.out (hF _ hm),h.out,h.row.chg c hF,fun x hx => ⟨(h.ats x hx).1.chg c hF,(h.ats x hx).2⟩,h.few,fun b hb => Nat.lt_of_lt_of_le (h.old b hb) c.size⟩
theorem FL.ext (h : FL A w B s X) (c : Ext w w') : FL A w' B s X := h.chg c (by simp)
theorem FL.less (h : FL A w B s X) {A' : List Nat} (hA : ∀ b ∈ A',b ∈ A) : FL A' w B s X :=
 ⟨h.box,fun hm => h.out (hA _ hm),h.row.less hA,fun x hx => ⟨(h.ats x hx).1.less hA,(h.ats x hx).2⟩,h.few,fun b hb => h.old b (hA b hb)⟩
theorem FL.cell (h : FL A w B s X) : w.cell? ((⟨B,0,none⟩ : Addr).add 0) = some s.v := by rw [Addr.add_zero']; exact h.box.cell 0 _ rfl
theorem FL.len (h : FL A w B s X) : s.n = X.length := by have := h.row.len; simpa using this
theorem FL.at_ (h : FL A w B s X) {k : Nat} (hk : k < X.length) : ∃ p,s.a = some p ∧ Cells w (p.add (k * 4)) (sdc (X.getD k default)) := by
 have hr := h.row.row
 obtain ⟨p,hp,_⟩ := hr.at_ k (by simpa using hk)
 have hc := hr.cells1 (i := k) (by simpa using hk) hp
 have e : (X.map sdc).getD k [] = sdc (X.getD k default) := by simp [List.getD_eq_getElem?_getD,hk]
 rw [e] at hc
 exact ⟨p,hp,hc⟩
theorem FL.mem (_ : FL A w B s X) {k : Nat} (hk : k < X.length) : X.getD k default ∈ X := by
 rw [List.getD_eq_getElem?_getD,List.getElem?_eq_getElem hk]; exact List.getElem_mem hk
def fromAt (X : List Sd) : Nat → Nat
 |0 => 0
 |n + 1 => if (X.getD n default).mar then n + 1 else fromAt X n
theorem fromAt_le (X : List Sd) : ∀ n,fromAt X n ≤ n
 |0 => Nat.le_refl _
 |n + 1 => by rw [fromAt]; split; exact Nat.le_refl _; exact Nat.le_succ_of_le (fromAt_le X n)
theorem fmtFrom (h : FL A w B s X) : Calls Tryz.prog 135 #[.pointer (some ⟨B,0,none⟩)] w (Ret fun v w' => Ext w w' ∧ v = .int .i64 (fromAt X X.length : Nat)) := by
 refine format_List_from.ok _ ?_
 unfold format_List_from.vc
 have hf := h.few
 have hl := h.len
 refine ⟨s,h.cell,fun n w' => w' = w ∧ ∃ k : Nat,n = (k : Int) ∧ k ≤ X.length ∧ fromAt X X.length = fromAt X k,fun n _ => n.toNat,⟨rfl,X.length,by rw [hl],Nat.le_refl _,rfl⟩,?_⟩
 rintro _ _ ⟨rfl,k,rfl,hk,he⟩
 cases k with
 |zero => exact ⟨Sl.nil,fun h => by omega,fun h => by omega,⟨0,0,none⟩,fun h => by omega,true,fun h => by omega,fun h => by omega,fun _ => ⟨Chg.refl _ _,by rw [he]; rfl⟩⟩
 |succ k =>
  obtain ⟨p,hp,hc⟩ := h.at_ (k := k) (by omega)
  have e1 : (((k + 1 : Nat) : Int) - 1) = (k : Int) := by omega
  rw [e1,Int.toNat_natCast]
  refine ⟨s,fun _ => h.cell,fun _ => ⟨by omega,by omega⟩,p,fun _ => ⟨⟨by omega,by omega⟩,hp⟩,(X.getD k default).mar,fun _ => hc 3 _ rfl,fun hh => ⟨⟨by omega,by omega⟩,⟨rfl,k,rfl,by omega,by rw [he,fromAt,hh.2]; rfl⟩,by show (k : Int).toNat < ((k + 1 : Nat) : Int).toNat; omega⟩,fun hh => ⟨Chg.refl _ _,?_⟩⟩
  rcases hh with hh | hh
  ·omega
  ·rw [he,fromAt,hh]; rfl
theorem fmtClone {id : Int} {nm : Str} {sa : Sl} {ats : List (Str × Str)} (h : Row [] w sa 2 (ats.map ac)) (hb : ats.length ≤ 1000) : Calls Tryz.prog 158 #[.agg #[.int .i64 id,.string (Bs nm),sa.v]] w
  (Ret fun v w' => Ext w w' ∧ ∃ sa' : Sl,v = .agg #[.int .i64 id,.string (Bs nm),sa'.v] ∧ Own (List.range w.heap.size) w' sa' 2 79 (ats.map ac)) := by
 refine format_Entry_clone.ok _ _ _ ?_
 unfold format_Entry_clone.vc
 intro w5 B2 B4 n2 n4 _ c5
 refine CallK.ext (cloneAttrs (h.ext c5) (by omega)) fun v w8 c8 ⟨r,hv,ho⟩ => ⟨r,hv,fun w11 c11 => ⟨Chg.fresh (c5.trans c8) c11 (fun b hb => ?_),r,rfl,?_⟩⟩
 ·have := n2.ge; have := n4.ge
  simp at hb; rcases hb with hb | hb <;> omega
 ·refine (ho.chg c11 fun b hb => ?_).less fun b hb => ?_
  ·have := n2.lt; have := n4.lt
   simp at hb; simp; rcases hb with hb | hb <;> omega
  ·have := c5.size
   simp at hb ⊢; omega
def placeAt : List Sd → Int → Int → Int
 |[],_,_ => -1
 |x :: r,id,k => if x.mar = false ∧ x.id = id then k else placeAt r id (k + 1)
theorem fmtPlaceFn {C : Nat} {id : Int} (hC : w.cell? ⟨C,0,none⟩ = some (.int .i64 id)) (x : Sd) : Calls Tryz.prog 175 #[.agg #[.int .i64 x.id,.string (Bs x.nm),x.sa.v,.bool x.mar],.pointer (some ⟨C,0,none⟩)] w
  (Ret fun v w' => Ext w w' ∧ v = .bool (decide (x.mar = false ∧ x.id = id))) := by
 refine format_List_Place_1.ok _ _ _ _ _ ?_
 unfold format_List_Place_1.vc
 refine fun w4 _ _ c4 => ⟨id,fun _ => Ext.cell c4 hC,c4,?_⟩
 cases hm : x.mar <;> simp
theorem fmtPlaceBody : Body Tryz.prog 175 := ⟨_,Tryz.func175,by decide,rfl⟩
theorem fmtIndex (h : FL A w B s X) {C : Nat} {id : Int} (hC : w.cell? ⟨C,0,none⟩ = some (.int .i64 id)) :
  Calls Tryz.prog 174 #[s.v,.func (.func 175) #[] #[.pointer (some ⟨C,0,none⟩)]] w (Ret fun v w' => Ext w w' ∧ v = .int .i64 (placeAt X id 0)) := by
 refine slices_IndexFunc__format_slot_format_slot_.ok _ _ ?_
 unfold slices_IndexFunc__format_slot_format_slot_.vc
 have hl := h.len
 have hf := h.few
 refine ⟨fun i w' => ∃ k : Nat,i = (k : Int) ∧ k ≤ X.length ∧ placeAt X id 0 = placeAt (X.drop k) id k ∧ Ext w w',fun i _ => X.length - i.toNat,⟨0,rfl,by omega,rfl,Chg.refl _ _⟩,?_⟩
 rintro _ w1 ⟨k,rfl,hk,he,hE⟩
 rw [Int.toNat_natCast]
 refine ⟨fun hi => ?_,fun hi => ⟨hE,?_⟩⟩
 ·have hk' : k < X.length := by omega
  obtain ⟨p,hp,hc⟩ := (h.ext hE).at_ hk'
  rw [drop_at X default hk',placeAt] at he
  refine ⟨⟨by omega,hi⟩,p,hp,_,_,_,_,hc,175,#[],#[.pointer (some ⟨C,0,none⟩)],rfl,fmtPlaceBody,CallK.exact (fmtPlaceFn (Ext.cell hE hC) (X.getD k default)) fun w2 hE2 => ⟨_,rfl,fun hx => ⟨hE.trans hE2,?_⟩,fun hx => ⟨⟨by omega,by omega⟩,⟨k + 1,by omega,by omega,?_,hE.trans hE2⟩,by dsimp only; omega⟩⟩⟩
  ·rw [he,if_pos (of_decide_eq_true hx)]
  ·rw [he,if_neg (of_decide_eq_false hx)]; rfl
 ·have hkl : k = X.length := by omega
  subst hkl
  rw [he,List.drop_length]; rfl
theorem fmtPlace (h : FL A w B s X) (id : Int) : Calls Tryz.prog 159 #[.pointer (some ⟨B,0,none⟩),.int .i64 id] w (Ret fun v w' => Ext w w' ∧ v = .int .i64 (placeAt X id 0)) := by
 refine format_List_Place.ok _ _ ?_
 unfold format_List_Place.vc
 intro w4 C hN c4
 have h4 := h.ext c4
 exact ⟨s,h4.cell,fun hB => CallK.exact (fmtIndex h4 (hB.cell 0 _ rfl)) fun w9 c9 => ⟨_,rfl,c4.trans c9,rfl⟩⟩
theorem fmtLen (h : FL A w B s X) : Calls Tryz.prog 136 #[.pointer (some ⟨B,0,none⟩)] w (Ret fun v w' => Ext w w' ∧ v = .int .i64 (X.length : Nat)) := by
 refine format_List_Len.ok _ ?_
 unfold format_List_Len.vc
 exact ⟨s,h.cell,Chg.refl _ _,by rw [h.len]⟩
end
section
open Go.RowKit
variable {A F : List Nat} {w w' : World} {B : Nat} {s s' : Sl} {X X' : List Sd}
theorem FL.apart (h : FL A w B s X) : B ∉ s.blk := h.row.other h.box (by decide)
theorem FL.sa (h : FL A w B s X) {x : Sd} (hx : x ∈ X) : ∀ b ∈ x.sa.blk,b ∉ B :: s.blk := by
 intro b hb hm
 have ho := (h.ats x hx).1
 rcases List.mem_cons.1 hm with e | e
 ·subst e; exact ho.other h.box (by decide) hb
 ·rcases h.row.at_ with e' | ⟨g,cur,hg,_,hB,_⟩
  ·rw [e'] at e; simp [Sl.blk,Sl.nil] at e
  ·simp [Sl.blk,hg] at e; subst e; exact ho.other hB (by decide) hb
theorem FL.next (h : FL A w B s X) (c : Chg (B :: s.blk) w w') (box' : Box w' B 73 [s'.v]) (row' : Own A w' s' 4 125 (X'.map sdc)) (hX : ∀ x ∈ X',x ∈ X ∨ (Own A w' x.sa 2 79 (x.ats.map ac) ∧ x.ats.length ≤ 1000))
  (few : X'.length ≤ 1000000) : FL A w' B s' X' :=
 ⟨box',h.out,row',fun x hx => (hX x hx).elim (fun hm => ⟨(h.ats x hm).1.keep c (h.sa hm),(h.ats x hm).2⟩) id,few,fun b hb => Nat.lt_of_lt_of_le (h.old b hb) c.size⟩
theorem FL.mod (h : FL A w B s X) (c : Chg (B :: s.blk) w w') : Mod A w w' := Mod.of c fun x hx hA => by
 rcases List.mem_cons.1 hx with e | e
 ·exact h.out (e ▸ hA)
 ·exact (h.row.blk x e).1 hA
theorem sdc_one (x : Sd) : ∀ v ∈ sdc x,v.oneCell' = true := by
 intro v hv
 simp [sdc] at hv
 rcases hv with rfl | rfl | rfl | rfl <;> rfl
theorem sdcs_one (X : List Sd) : ∀ u ∈ (X.map sdc).flatten,u.oneCell' = true := by
 intro u hu
 obtain ⟨l,hl,hm⟩ := List.mem_flatten.1 hu
 obtain ⟨x,_,rfl⟩ := List.mem_map.1 hl
 exact sdc_one x u hm
end
section
open Go.RowKit
theorem Own.more {A A' : List Nat} {w : World} {s : Sl} {size : Nat} {T : TypeId} {vs : List (List Value)} (h : Own A w s size T vs) (hs : ∀ b ∈ s.blk,b ∉ A') : Own A' w s size T vs :=
 ⟨h.len,h.cap,h.most,h.each,h.at_.imp id fun ⟨g,cur,h1,_,h3⟩ => ⟨g,cur,h1,hs g (by simp [Sl.blk,h1]),h3⟩⟩
theorem FL.more {A A' : List Nat} {w : World} {B : Nat} {s : Sl} {X : List Sd} (h : FL A w B s X) (hB : B ∉ A') (hs : ∀ b ∈ s.blk,b ∉ A') (ha : ∀ x ∈ X,∀ b ∈ x.sa.blk,b ∉ A') (ho : ∀ b ∈ A',b < w.heap.size) : FL A' w B s X :=
 ⟨h.box,hB,h.row.more hs,fun x hx => ⟨(h.ats x hx).1.more (ha x hx),(h.ats x hx).2⟩,h.few,ho⟩
theorem FL.apartChg {F K : List Nat} {w w' : World} {B : Nat} {s : Sl} {X : List Sd} (h : FL [] w B s X) (hB : B ∈ K) (hs : ∀ b ∈ s.blk,b ∈ K) (ha : ∀ x ∈ X,∀ b ∈ x.sa.blk,b ∈ K) (c : Chg F w w') (hF : ∀ b ∈ F,b ∉ K) : FL [] w' B s X := by
 have c' : Chg (F.filter fun b => decide (b < w.heap.size)) w w' := ⟨c.os,c.tape,c.output,c.size,fun k hk hn => c.block k hk fun hm => hn (List.mem_filter.2 ⟨hm,by simpa using hk⟩)⟩
 have hm : ∀ b ∈ F.filter (fun b => decide (b < w.heap.size)),b ∉ K ∧ b < w.heap.size := fun b hb => by
  obtain ⟨h1,h2⟩ := List.mem_filter.1 hb
  exact ⟨hF b h1,by simpa using h2⟩
 exact ((h.more (A' := F.filter fun b => decide (b < w.heap.size)) (fun e => (hm _ e).1 hB) (fun b hb e => (hm _ e).1 (hs b hb)) (fun x hx b hb e => (hm _ e).1 (ha x hx b hb)) fun b hb => (hm b hb).2).chg c' fun _ h => h).less (by simp)
end
section
namespace Ev
set_option autoImplicit false
inductive All2 {α β : Type} (r : α → β → Prop) : List α → List β → Prop
 |nil : All2 r [] []
 |cons {x : α} {y : β} {xs : List α} {ys : List β} (h : r x y) (t : All2 r xs ys) : All2 r (x :: xs) (y :: ys)
theorem All2.mono {α β : Type} {r r' : α → β → Prop} {xs : List α} {ys : List β} (h : All2 r xs ys) (m : ∀ x y,r x y → r' x y) : All2 r' xs ys := by
 induction h with
 |nil => exact .nil
 |cons h _ ih => exact .cons (m _ _ h) ih
theorem All2.length {α β : Type} {r : α → β → Prop} {xs : List α} {ys : List β} (h : All2 r xs ys) : ys.length = xs.length := by
 induction h with
 |nil => rfl
 |cons _ _ ih => simp [ih]
theorem All2.get {α β : Type} {r : α → β → Prop} {xs : List α} {ys : List β} (h : All2 r xs ys) : ∀ (i : Nat) (x : α),xs[i]? = some x → ∃ y,ys[i]? = some y ∧ r x y := by
 induction h with
 |nil => intro i x h; simp at h
 |cons h _ ih =>
  intro i x hx
  cases i with
  |zero => simp at hx; subst hx; exact ⟨_,by simp,h⟩
  |succ i => simpa using ih i x (by simpa using hx)
theorem All2.append {α β : Type} {r : α → β → Prop} {xs : List α} {ys : List β} {xs' : List α} {ys' : List β} (h : All2 r xs ys) (k : All2 r xs' ys') : All2 r (xs ++ xs') (ys ++ ys') := by
 induction h with
 |nil => exact k
 |cons h _ ih => exact .cons h ih
theorem All2.of_get {α β : Type} {r : α → β → Prop} : ∀ {xs : List α} {ys : List β},xs.length = ys.length → (∀ (i : Nat) (x : α) (y : β),xs[i]? = some x → ys[i]? = some y → r x y) → All2 r xs ys
 |[],[],_,_ => .nil
 |x :: xs,y :: ys,hl,h => .cons (h 0 x y (by simp) (by simp)) (All2.of_get (by simpa using hl) fun i x' y' hx hy => h (i + 1) x' y' (by simpa using hx) (by simpa using hy))
 |[],_ :: _,hl,_ => by simp at hl
 |_ :: _,[],hl,_ => by simp at hl
def WP (w : World) : Prop := Go.Lib.TabIs Tryz.prog w "strings.asciiSpace" .u8 Go.Lib.asciiSpaceTab
structure W0 where
 w : World
 F : Nat → Prop
def W0.all (w : World) : W0 := ⟨w,fun _ => False⟩
structure Kept (o : W0) (w' : World) : Prop where
 os : w'.os = o.w.os
 tape : w'.tape = o.w.tape
 output : w'.output = o.w.output
 size : o.w.heap.size ≤ w'.heap.size
 block : ∀ k,k < o.w.heap.size → ¬ o.F k → w'.heap[k]? = o.w.heap[k]?
def W0.may (o : W0) (B : Nat) : Prop := o.w.heap.size ≤ B ∨ o.F B
def W0.ok (o : W0) : Prop := WP o.w ∧ ¬ o.F 0
theorem Kept.refl (o : W0) : Kept o o.w := ⟨rfl,rfl,rfl,Nat.le_refl _,fun _ _ _ => rfl⟩
theorem Kept.fresh {o : W0} {w w' : World} {F : List Nat} (h : Kept o w) (k : Chg F w w') (hF : ∀ x ∈ F,o.may x) : Kept o w' :=
 ⟨k.os.trans h.os,k.tape.trans h.tape,k.output.trans h.output,Nat.le_trans h.size k.size,
  fun i hi hn => (k.block i (Nat.lt_of_lt_of_le hi h.size) fun hm => by
   rcases hF i hm with h1 | h1
   ·omega
   ·exact hn h1).trans (h.block i hi hn)⟩
theorem Kept.trans {o : W0} {w w' : World} (h : Kept o w) (k : Ext w w') : Kept o w' := h.fresh k (by simp)
theorem Kept.ext {w w' : World} (h : Kept (W0.all w) w') : Ext w w' := ⟨h.os,h.tape,h.output,h.size,fun k hk _ => h.block k hk id⟩
abbrev En := Nat → Option (Nat × Nat)
def En.le (E E' : En) : Prop := ∀ b p,E b = some p → E' b = some p
theorem En.le_refl (E : En) : E.le E := fun _ _ h => h
theorem En.le_trans {A B C : En} (h : A.le B) (k : B.le C) : A.le C := fun b p e => k b p (h b p e)
def En.add (E : En) (b B S : Nat) : En := fun x => if x = b then some (B,S) else E x
theorem En.le_add {E : En} {b B S : Nat} (h : E b = none) : E.le (E.add b B S) := fun x p e => by
 unfold En.add
 by_cases hx : x = b
 ·subst hx; rw [h] at e; cases e
 ·rw [if_neg hx]; exact e
theorem En.add_same (E : En) (b B S : Nat) : E.add b B S b = some (B,S) := by simp [En.add]
theorem En.add_other (E : En) {b x : Nat} (B S : Nat) (h : x ≠ b) : E.add b B S x = E x := by simp [En.add,h]
class Tx where
 t : Nat → Str
 ok : ∀ n,∃ c r,t n = c :: r ∧ c ≠ 9 ∧ c ≠ 10 ∧ c ≠ 12 ∧ c ≠ 32
 up : ∀ n,t (upN n) = t n
section
variable [Tx]
def LsN (K : List Nat) (w : World) (B : Nat) (v : List (Nat × Nat)) : Prop := ∃ (s : Sl) (X : List Sd),FL [] w B s X ∧ B ∈ K ∧ (∀ b ∈ s.blk,b ∈ K) ∧ (∀ x ∈ X,x.mar = false ∧ x.ats = [] ∧ (∀ b ∈ x.sa.blk,b ∈ K) ∧ ∃ q ∈ nmF,x.nm = q.map UInt8.ofNat) ∧ (X.map fun x => (x.id,x.nm)).Sublist (v.map fun p => ((p.1 : Int),Tx.t p.2))
theorem LsN.chg {K F : List Nat} {w w' : World} {B : Nat} {v : List (Nat × Nat)} (h : LsN K w B v) (c : Chg F w w') (hF : ∀ b ∈ F,b ∉ K) : LsN K w' B v := by
 obtain ⟨s,X,h1,h2,h3,h4,h5⟩ := h
 exact ⟨s,X,h1.apartChg h2 h3 (fun x hx => (h4 x hx).2.2.1) c hF,h2,h3,h4,h5⟩
end
def pV (E : En) (p : Nat × Nat) (v : Value) : Prop := ∃ B S,E p.1 = some (B,S) ∧ v = .pointer (some ⟨B,p.2,none⟩)
section
variable [Tx]
def AC.v (E : En) : AC → Value → Prop
 |.b x,v => v = .bool x
 |.i k n,v => v = .int k n
 |.s x,v => v = .string (Bs (x.map UInt8.ofNat)) ∧ ∀ n ∈ x,n < 256
 |.p none,v => v = .pointer none
 |.p (some q),v => pV E q v
 |.sl none n c _,v => n = 0 ∧ c = 0 ∧ v = .slice none 0 0
 |.sl (some (y,o)) n c es,v => ∃ B S o' c',E y = some (B,S) ∧ v = .slice (some ⟨B,o',none⟩) n c' ∧ c ≤ c' ∧ n ≤ c' ∧ (c' = 0 ∨ o' = o) ∧ o + c' * es ≤ S
 |.m none,v => v = .map none
 |.m (some y),v => ∃ B S,E y = some (B,S) ∧ v = .map (some B)
 |.f id caps,v => ∃ cs : List Value,v = .func (.func id) #[] cs.toArray ∧ All2 (pV E) caps cs
 |.nf,v => v = .nilFunc
 |.ni,v => v = .nilIface
 |.qu n r,v => ∃ x : Int,v = .int .i64 x ∧ x % (n : Int) = (r : Int)
 |.tx n x,v => v = .string (Bs (x.map UInt8.ofNat ++ Tx.t n)) ∧ (∀ k ∈ x,k < 256) ∧ (100 ≤ n → ∃ q ∈ clsN n,Tx.t n = q.map UInt8.ofNat)
end
theorem pV.mono {E E' : En} (h : E.le E') {p : Nat × Nat} {v : Value} : pV E p v → pV E' p v := fun ⟨B,S,h1,h2⟩ => ⟨B,S,h _ _ h1,h2⟩
section
variable [Tx]
theorem AC.mono {E E' : En} (h : E.le E') : ∀ {x : AC} {v : Value},x.v E v → x.v E' v
 |.b _,_,k => k
 |.i _ _,_,k => k
 |.s _,_,k => k
 |.p none,_,k => k
 |.p (some _),_,k => k.mono h
 |.sl none _ _ _,_,k => k
 |.sl (some (_,_)) _ _ _,_,⟨B,S,o',c',h1,h2⟩ => ⟨B,S,o',c',h _ _ h1,h2⟩
 |.m none,_,k => k
 |.m (some _),_,⟨B,S,h1,h2⟩ => ⟨B,S,h _ _ h1,h2⟩
 |.f _ _,_,⟨cs,h1,h2⟩ => ⟨cs,h1,h2.mono fun _ _ => pV.mono h⟩
 |.nf,_,k => k
 |.ni,_,k => k
 |.qu _ _,_,k => k
 |.tx _ _,_,k => k
theorem AC.one {E : En} : ∀ {x : AC} {v : Value},x.v E v → v.oneCell' = true
 |.b _,_,k => by cases k; rfl
 |.i _ _,_,k => by cases k; rfl
 |.s _,_,k => by rw [k.1]; rfl
 |.p none,_,k => by cases k; rfl
 |.p (some _),_,⟨_,_,_,k⟩ => by rw [k]; rfl
 |.sl none _ _ _,_,k => by rw [k.2.2]; rfl
 |.sl (some (_,_)) _ _ _,_,⟨_,_,_,_,_,k,_⟩ => by rw [k]; rfl
 |.m none,_,k => by cases k; rfl
 |.m (some _),_,⟨_,_,_,k⟩ => by rw [k]; rfl
 |.f _ _,_,⟨_,k,_⟩ => by rw [k]; rfl
 |.nf,_,k => by cases k; rfl
 |.ni,_,k => by cases k; rfl
 |.qu _ _,_,⟨_,k,_⟩ => by rw [k]; rfl
 |.tx _ _,_,k => by rw [k.1]; rfl
abbrev ACs (E : En) : List AC → List Value → Prop := All2 (AC.v E)
theorem ACs.mono {E E' : En} (h : E.le E') {l : List AC} {cs : List Value} (k : ACs E l cs) : ACs E' l cs := All2.mono k fun _ _ => AC.mono h
theorem ACs.one {E : En} {l : List AC} {cs : List Value} (k : ACs E l cs) : ∀ v ∈ cs,v.oneCell' = true := by
 induction k with
 |nil => intro v h; cases h
 |cons h _ ih =>
  intro v hv
  rcases List.mem_cons.1 hv with rfl | hv
  ·exact AC.one h
  ·exact ih v hv
def gV (E : En) (g : Bool) (l : List AC) (v : Value) : Prop := match g with
 |true => ∃ cs : List Value,v = .agg cs.toArray ∧ ACs E l cs
 |false => ∃ x,l = [x] ∧ x.v E v
def AV.v (E : En) : AV → Value → Prop
 |.c x,v => x.v E v
 |.a l,v => ∃ cs : List Value,v = .agg cs.toArray ∧ ACs E l cs
 |.t l,v => ∃ vs : List Value,v = .tuple vs.toArray ∧ All2 (fun p v => gV E p.1 p.2 v) l vs
 |.u,v => v = undef
theorem gV.mono {E E' : En} (h : E.le E') : ∀ {g : Bool} {l : List AC} {v : Value},gV E g l v → gV E' g l v
 |true,_,_,⟨cs,h1,h2⟩ => ⟨cs,h1,h2.mono h⟩
 |false,_,_,⟨x,h1,h2⟩ => ⟨x,h1,AC.mono h h2⟩
theorem AV.mono {E E' : En} (h : E.le E') : ∀ {x : AV} {v : Value},x.v E v → x.v E' v
 |.c _,_,k => AC.mono h k
 |.a _,_,⟨cs,h1,h2⟩ => ⟨cs,h1,h2.mono h⟩
 |.t _,_,⟨vs,h1,h2⟩ => ⟨vs,h1,h2.mono fun _ _ => gV.mono h⟩
 |.u,_,k => k
theorem AV.cells_of {E : En} : ∀ {x : AV} {v : Value},x.plain = true → x.v E v → ∃ cs : List Value,v.cells = cs.toArray ∧ ACs E x.cells cs
 |.c x,v,_,h => ⟨[v],by
   have := AC.one h
   cases v <;> first | rfl | (simp [Value.oneCell'] at this),.cons h .nil⟩
 |.a _,_,_,⟨cs,h1,h2⟩ => ⟨cs,by rw [h1]; rfl,h2⟩
theorem mkV_v {E : En} {g : Bool} {l : List AC} {v : AV} {u : Value} (h : mkV g l = some v) (k : gV E g l u) : v.v E u := by
 cases g with
 |true =>
  simp [mkV] at h; subst h; exact k
 |false =>
  obtain ⟨x,h1,h2⟩ := k
  subst h1
  simp [mkV] at h; subst h; exact h2
end
theorem Tr.get_setF {α : Type} : ∀ (fuel n m : Nat) (o : α) (t : Tr α),n < fuel → (Tr.setF fuel n o t).get m = if m = n then some o else t.get m
 |0,_,_,_,_,h => by omega
 |fuel + 1,n,m,o,t,h => by
  have key : ∀ (v : Option α) (l r : Tr α),((cond (Nat.beq n 0) (.node (some o) l r) (cond (Nat.beq (Nat.mod n 2) 1) (.node v (Tr.setF fuel (Nat.div n 2) o l) r) (.node v l (Tr.setF fuel (Nat.sub (Nat.div n 2) 1) o r))) : Tr α)).get m = if m = n then some o else (Tr.node v l r).get m := by
   intro v l r
   have gn : ∀ (v : Option α) (l r : Tr α),(Tr.node v l r).get m = if m = 0 then v else if m % 2 = 1 then l.get (m / 2) else r.get (m / 2 - 1) := by
    intro v l r
    show cond (Nat.beq m 0) v (cond (Nat.beq (m % 2) 1) (l.get (m / 2)) (r.get (m / 2 - 1))) = _
    by_cases h0 : m = 0
    ·subst h0; rfl
    ·have e0 : Nat.beq m 0 = false := by cases m <;> simp_all [Nat.beq]
     rw [e0,if_neg h0]
     by_cases h1 : m % 2 = 1
     ·rw [h1,if_pos rfl]; rfl
     ·have e1 : Nat.beq (m % 2) 1 = false := by
       have : m % 2 = 0 := by omega
       rw [this]; rfl
      rw [e1,if_neg h1]; rfl
   by_cases hn : n = 0
   ·subst hn
    show (Tr.node (some o) l r).get m = _
    rw [gn,gn]
    by_cases h0 : m = 0 <;> simp [h0]
   ·have e0 : Nat.beq n 0 = false := by cases n <;> simp_all [Nat.beq]
    rw [e0]
    by_cases h1 : n % 2 = 1
    ·have e1 : Nat.beq (Nat.mod n 2) 1 = true := by show Nat.beq (n % 2) 1 = true; rw [h1]; rfl
     rw [e1]
     show (Tr.node v (Tr.setF fuel (n / 2) o l) r).get m = _
     rw [gn,gn,Tr.get_setF fuel (n / 2) (m / 2) o l (by omega)]
     by_cases h0 : m = 0
     ·rw [if_pos h0,if_pos h0,if_neg (by omega)]
     ·rw [if_neg h0,if_neg h0]
      by_cases h2 : m % 2 = 1
      ·rw [if_pos h2,if_pos h2]
       by_cases h3 : m = n
       ·rw [if_pos h3,if_pos (by omega)]
       ·rw [if_neg h3,if_neg (by omega)]
      ·rw [if_neg h2,if_neg h2,if_neg (by omega)]
    ·have e1 : Nat.beq (Nat.mod n 2) 1 = false := by
      have : n % 2 = 0 := by omega
      show Nat.beq (n % 2) 1 = false; rw [this]; rfl
     rw [e1]
     show (Tr.node v l (Tr.setF fuel (n / 2 - 1) o r)).get m = _
     rw [gn,gn,Tr.get_setF fuel (n / 2 - 1) (m / 2 - 1) o r (by omega)]
     by_cases h0 : m = 0
     ·rw [if_pos h0,if_pos h0,if_neg (by omega)]
     ·rw [if_neg h0,if_neg h0]
      by_cases h2 : m % 2 = 1
      ·rw [if_pos h2,if_pos h2,if_neg (by omega)]
      ·rw [if_neg h2,if_neg h2]
       by_cases h3 : m = n
       ·rw [if_pos h3,if_pos (by omega)]
       ·rw [if_neg h3,if_neg (by omega)]
  cases t with
  |nil =>
   have := key none .nil .nil
   refine this.trans ?_
   have e : (Tr.node (none : Option α) .nil .nil).get m = (Tr.nil : Tr α).get m := by
    show cond (Nat.beq m 0) none (cond (Nat.beq (m % 2) 1) none none) = none
    cases Nat.beq m 0 <;> cases Nat.beq (m % 2) 1 <;> rfl
   rw [e]
  |node v l r => exact key v l r
theorem Tr.get_set {α : Type} (t : Tr α) (n m : Nat) (o : α) : (t.set n o).get m = if m = n then some o else t.get m := Tr.get_setF (n + 1) n m o t (by omega)
theorem AH.get_set (H : AH) (n m : Nat) (o : AO) : (H.set n o).get m = if m = n then some o else H.get m := Tr.get_set _ _ _ _
theorem AH.get_push (H : AH) (m : Nat) (o : AO) : (H.push o).get m = if m = H.nx then some o else H.get m := Tr.get_set _ _ _ _
theorem AH.fm_fset (H : AH) (f e l m : Nat) : (H.fset f e l).fm.get m = if m = f then some (e,l) else H.fm.get m := Tr.get_set _ _ _ _
theorem AH.at_eq {H : AH} {b T : Nat} {c : List AC} {l : Lk} : H.at b = some (T,c,l) ↔ H.get b = some (.cells T c l) ∧ ∀ f e,l = .fam f e → ∃ q,H.fm.get f = some (e,q) := by
 unfold AH.at
 cases hg : H.get b with
 |none => simp
 |some o =>
  cases o with
  |map es cl => simp
  |lst v => simp
  |cells T' c' l' =>
   cases l' with
   |own =>
    constructor
    ·intro h; simp at h; obtain ⟨rfl,rfl,rfl⟩ := h; exact ⟨rfl,fun f e h => by cases h⟩
    ·rintro ⟨h,_⟩; injection h with h; injection h with h1 h2 h3; subst h1; subst h2; subst h3; rfl
   |ro =>
    constructor
    ·intro h; simp at h; obtain ⟨rfl,rfl,rfl⟩ := h; exact ⟨rfl,fun f e h => by cases h⟩
    ·rintro ⟨h,_⟩; injection h with h; injection h with h1 h2 h3; subst h1; subst h2; subst h3; rfl
   |fam f e =>
    cases hf : H.fm.get f with
    |none =>
     simp only [hf]
     constructor
     ·intro h; cases h
     ·rintro ⟨h,k⟩; injection h with h; injection h with h1 h2 h3; subst h3
      obtain ⟨q,hq⟩ := k f e rfl; rw [hf] at hq; cases hq
    |some p =>
     obtain ⟨e',q⟩ := p
     simp only [hf]
     by_cases he : e = e'
     ·subst he
      have : Nat.beq e e = true := Nat.beq_refl e
      rw [this]
      constructor
      ·intro h; simp at h; obtain ⟨rfl,rfl,rfl⟩ := h
       exact ⟨rfl,fun f' e' h => by injection h with h1 h2; subst h1; subst h2; exact ⟨q,hf⟩⟩
      ·rintro ⟨h,_⟩; injection h with h; injection h with h1 h2 h3; subst h1; subst h2; subst h3; rfl
     ·have : Nat.beq e e' = false := by
       cases hb : Nat.beq e e' with
       |false => rfl
       |true => exact absurd (Nat.eq_of_beq_eq_true hb) he
      rw [this]
      constructor
      ·intro h; simp at h
      ·rintro ⟨h,k⟩; injection h with h; injection h with h1 h2 h3; subst h3
       obtain ⟨q',hq⟩ := k f e rfl
       rw [hf] at hq; injection hq with hq; injection hq with h1 h2; exact absurd h1.symm he
end Ev
end
end Go.Proofs.YtenokfdkckhhiaaGreatDoor
