/-
  What the proof of the statement leans on: texts one behind the other.
-/
import Derived.Test.YtenokfdkckhhiaaGreatDoorQBuildNests3
import Derived.Test.YtenokfdkckhhiaaGreatDoorQBuildNests2
import Derived.Test.YtenokfdkckhhiaaGreatDoorQBuildNests0
import Derived.Test.YtenokfdkckhhiaaGreatDoorQBuildNestsGT
import Derived.Test.YtenokfdkckhhiaaGreatDoorQBuildNestsGnst
import Derived.Test.YtenokfdkckhhiaaGreatDoorQBuildNestsShelf
import Derived.Test.YtenokfdkckhhiaaGreatDoorQBuildNestsGamg
import Derived.Test.YtenokfdkckhhiaaGreatDoorQBuildNestsGnsi
import Derived.Test.YtenokfdkckhhiaaGreatDoorQBuildNestsGnsk
import Derived.Test.YtenokfdkckhhiaaGreatDoorQBuildNests1
import Derived.Test.YtenokfdkckhhiaaGreatDoorProg
import Derived.Laws.Tables
import Derived.MapKept
import Derived.Lib.UnsafeStr
import Derived.WalkKit
import Derived.Lib.Builder
import Derived.Shelf.RegionOpenPlain
import Derived.Lib.Fields
import Derived.Shelf.RegionOpen
import Derived.RangeFuncBox
import Derived.RangeFuncNested
import Derived.RangeFuncLeaves
import Derived.Shelf.Abstract
import Derived.OwnWalkIn
import Derived.TacticsInMore
import Derived.LoopNIn
import Derived.LoopIn
namespace Go.Proofs.YtenokfdkckhhiaaGreatDoor
section
namespace Ev
set_option autoImplicit false
section
variable {P : Program} {G : Nat} {dst : Option Nat} {ty : TypeId} {pos : String} {after : Array Edge} {guard : Option (Nat × Bool)}
section
variable [Tx]
theorem V_usd {t : TypeId} {x : Operand} {x' : X} (hx : XR G x x') : OpV P G ⟨dst,.call { callee := .builtin .unsafeSliceData,args := #[x],argTypes := #[t] },ty,pos,after,guard⟩ (.usd x') := by
 intro E H w0 w a L run v H' hG hH hF h
 replace h : (match evX L x' with | some (.c (.sl none _ _ _)) => some (AV.c (.p none),H) | some (.c (.sl (some a) _ c _)) => cond (Nat.beq c 0) none (some (AV.c (.p (some a)),H)) | _ => none) = some (v,H') := h
 split at h
 ·rename_i n c es h1
  injection h with h; injection h with h2 h3; subst h2
  obtain ⟨_,_,e1⟩ := hx hG hF h1
  have hu : (Builtin.unsafeSliceData_ #[t] ty #[.slice none 0 0]).run P w = .ok (.pointer none) w := rfl
  exact ⟨h3.symm,.pointer none,by simp [execOp,resolve,invoke,builtin,e1,hu],rfl⟩
 ·rename_i p n c es h1
  cases hb : Nat.beq c 0 with
  |true => rw [hb] at h; cases h
  |false =>
   rw [hb] at h; injection h with h; injection h with h2 h3; subst h2
   obtain ⟨b,o⟩ := p
   obtain ⟨B,S,o',c',e1,e2,e3,e4,e5,e6⟩ := hx hG hF h1
   have hc0 : c ≠ 0 := fun e => by subst e; cases hb
   have hc : c' ≠ 0 := by omega
   have ho : o' = o := by rcases e5 with e5 | e5 <;> first | exact e5 | omega | exact absurd e5 hc
   subst ho
   have hu : (Builtin.unsafeSliceData_ #[t] ty #[.slice (some ⟨B,o',none⟩) n c']).run P w = .ok (.pointer (some ⟨B,o',none⟩)) w := by
    unfold Builtin.unsafeSliceData_
    show Sem.run P (if c' ≠ 0 then pure (Value.pointer (some ⟨B,o',none⟩)) else _) w = _
    rw [if_pos hc]; rfl
   exact ⟨h3.symm,.pointer (some ⟨B,o',none⟩),by simp [execOp,resolve,invoke,builtin,e2,hu],B,S,e1,rfl⟩
 ·cases h
theorem A_mkm {t : TypeId} (hr : ∀ w : World,(Instr.makeMap t none).run P w = .ok (.map (some w.heap.size)) (w.alloc (.map #[] 0))) : OpS P G ⟨dst,.makeMap t none,ty,pos,after,guard⟩ .mkm := by
 intro E H w0 w a L run v H' _ hG hH hF h
 replace h : some (AV.c (.m (some H.nx)),H.push (.map [] 0)) = some (v,H') := h
 injection h with h; injection h with h1 h2; subst h1; subst h2
 refine ⟨⟨Nat.le_succ _,fun b hb _ => (AH.get_push _ _ _).trans (if_neg (Nat.ne_of_lt hb))⟩,.inl ⟨_,_,r_makeMap (hr w),?_⟩⟩
 have hg : (H.push (.map [] 0)).get H.nx = some (.map [] 0) := (AH.get_push _ _ _).trans (if_pos rfl)
 have hp := (hH.push (o := .map [] 0) fun _ _ _ _ h => (by cases h)).ext (Ext.alloc w (.map #[] 0))
 have hE := hH.free
 have old : ∀ {x p},x ≠ H.nx → E.add H.nx w.heap.size 0 x = some p → E x = some p := fun hx hp => by rwa [En.add_other _ _ _ hx] at hp
 have hlt : ∀ {x p},E x = some p → live (H.push (.map [] 0)) x → p.1 < w.heap.size := fun {x p} hx hl => by
  have hpw := hH.push (o := .map [] 0) fun _ _ _ _ h => (by cases h)
  rcases hl with hl | ⟨es,cl,hl⟩
  ·cases ha : (H.push (.map [] 0)).at x with
   |none => rw [ha] at hl; cases hl
   |some q =>
    obtain ⟨C',T'',fz,h1,_⟩ := hpw.cel x q.1 q.2.1 q.2.2 p.1 p.2 ha hx
    exact (Array.getElem?_eq_some_iff.1 h1).1
  ·obtain ⟨_,ms,h1,_⟩ := hpw.mp x es cl p.1 p.2 hl hx
   exact (Array.getElem?_eq_some_iff.1 h1).1
 have hle := En.le_add (B := w.heap.size) (S := 0) hE
 refine ⟨E.add H.nx w.heap.size 0,hle,fun b p hb => ?_,⟨fun x p hx => by
  by_cases hxn : x = H.nx
  ·subst hxn
   rw [En.add_same] at hx; injection hx with hx; subst hx
   show w.heap.size < (w.heap.push _).size
   rw [Array.size_push]; exact Nat.lt_succ_self _
  ·exact hp.lt x p (old hxn hx),hp.wp,hp.ch,fun x p hx => ?_,hp.key,hp.fkey,hp.bf,hp.las,fun x T c l B S ha hx => ?_,fun x es cl B S hm hx => ?_,fun x y B S S' hxy hx hy hl hl' => ?_,fun x v B S hm hx => by
  have hxn : x ≠ H.nx := fun e => by subst e; rw [hg] at hm; cases hm
  exact (((hH.push (o := .map [] 0) fun _ _ _ _ h => (by cases h)).ls x v B S hm (old hxn hx)).add (.inl (Nat.le_refl _))).ext (Ext.alloc w (.map #[] 0))⟩,w.heap.size,0,En.add_same _ _ _ _,rfl⟩
 ·by_cases hbn : b = H.nx
  ·subst hbn; exact .inr (Nat.le_refl _)
  ·exact .inl (old hbn hb)
 ·by_cases hxn : x = H.nx
  ·subst hxn; exact Nat.lt_succ_self _
  ·exact hp.dom x p (old hxn hx)
 ·have hxn : x ≠ H.nx := fun e => by subst e; have := (AH.at_eq.1 ha).1; rw [hg] at this; cases this
  obtain ⟨C,T',fz,h1,h2,h3,h4⟩ := hp.cel x T c l B S ha (old hxn hx)
  exact ⟨C,T',fz,h1,h2,h3.mono hle,h4⟩
 ·by_cases hxn : x = H.nx
  ·subst hxn
   rw [En.add_same] at hx; injection hx with hx; injection hx with g1 g2; subst g1
   rw [hg] at hm; injection hm with hm; injection hm with g3 g4; subst g3; subst g4
   exact ⟨.inl hH.ch.size,[],heap_alloc_new w _,.nil⟩
  ·obtain ⟨h0,ms,h1,h2⟩ := hp.mp x es cl B S hm (old hxn hx)
   exact ⟨h0,ms,h1,h2.mono fun _ _ => entR.mono hle⟩
 ·by_cases hxn : x = H.nx
  ·subst hxn
   rw [En.add_same] at hx; injection hx with hx; injection hx with g1 _; subst g1
   exact absurd (hlt (old (Ne.symm hxy) hy) hl') (Nat.lt_irrefl _)
  ·by_cases hyn : y = H.nx
   ·subst hyn
    rw [En.add_same] at hy; injection hy with hy; injection hy with g1 _; subst g1
    exact absurd (hlt (old hxn hx) hl) (Nat.lt_irrefl _)
   ·exact hp.inj x y B S S' hxy (old hxn hx) (old hyn hy) hl hl'
end
theorem zeroCells_get (zs : Array Value) (n j : Nat) (h : j < n * zs.size) : (Builtin.zeroCells zs n).toList[j]? = some zs[j % zs.size]! := by
 simp only [Builtin.zeroCells,Array.toList_map,Array.toList_range,List.getElem?_map,List.getElem?_range h,Option.map_some]
section
variable [Tx]
theorem S_clr {t e size bytes : Nat} {z : Value} {zs : List AC} {x : Operand} {x' : X} (ht : P.underlying t = some (.slice e)) (hi : TI P e z size bytes) (hz : ∀ E,∃ cs : List Value,z.cells = cs.toArray ∧ ACs E zs cs) (hx : XR G x x') (hun : undef = Value.tuple #[]) :
  OpS P G ⟨dst,.call { callee := .builtin .clear,args := #[x],argTypes := #[t] },ty,pos,after,guard⟩ (.clr zs x') := by
 intro E H w0 w a L run v H' _ hG hH hF h
 replace h : (match evX L x' with | some (.c (.sl none _ _ _)) => some (AV.u,H) | some (.c (.sl (some (b,o)) n _ _)) => cond (Nat.beq n 0) (some (AV.u,H)) (match H.wr b o (repl zs n) with | some H' => some (AV.u,H') | none => none) | _ => none) = some (v,H') := h
 obtain ⟨i,hi0,hz0,hs,hby⟩ := hi
 split at h
 ·rename_i n c es h1
  injection h with h; injection h with h2 h3; subst h2; subst h3
  obtain ⟨_,_,e1⟩ := hx hG hF h1
  have hr : (Builtin.clear_ #[t] ty #[.slice none 0 0]).run P w = .ok (.tuple #[]) w := by
   simp [Builtin.clear_,run_underlying ht]
  exact ⟨Keeps.refl _ _,.inl ⟨_,w,r_clear e1 hr,E,En.le_refl _,fun _ _ h => .inl h,hH,hun.symm⟩⟩
 ·rename_i b o n c es h1
  obtain ⟨B,S,o',c',e1,e2,e3,e4,e5,e6⟩ := hx hG hF h1
  cases hn : Nat.beq n 0 with
  |true =>
   have hn := Nat.eq_of_beq_eq_true hn
   subst hn
   injection h with h; injection h with h2 h3; subst h2; subst h3
   have hr : (Builtin.clear_ #[t] ty #[.slice (some ⟨B,o',none⟩) 0 c']).run P w = .ok (.tuple #[]) w := by
    simp [Builtin.clear_,run_underlying ht]
   exact ⟨Keeps.refl _ _,.inl ⟨_,w,r_clear e2 hr,E,En.le_refl _,fun _ _ h => .inl h,hH,hun.symm⟩⟩
  |false =>
   rw [hn] at h
   replace h : (match H.wr b o (repl zs n) with | some H' => some (AV.u,H') | none => none) = some (v,H') := h
   cases hw : H.wr b o (repl zs n) with
   |none => rw [hw] at h; cases h
   |some H1 =>
    rw [hw] at h; injection h with h; injection h with h2 h3; subst h2; subst h3
    have hn0 : 0 < n := by
     rcases Nat.eq_zero_or_pos n with h | h
     ·subst h; cases hn
     ·exact h
    have ho : o' = o := by rcases e5 with e5 | e5 <;> first | exact e5 | omega
    subst ho
    obtain ⟨cs,f1,f2⟩ := hz E
    have hlen := All2.length f2
    have hzc : z.cells.size = zs.length := by rw [f1,List.size_toArray,hlen]
    have hv : ACs E (repl zs n) (Builtin.zeroCells z.cells n).toList := All2.of_get (by have h1 := size_zeroCells z.cells n; rw [hzc] at h1; rw [repl_length,← h1]; rfl) fun j u y hu hy => by
     have hjl : j < n * zs.length := by rw [← repl_length]; exact (List.getElem?_eq_some_iff.1 hu).1
     rw [repl_get zs n j hjl] at hu
     obtain ⟨u',q1,q2⟩ := All2.get f2 _ _ hu
     rw [zeroCells_get _ _ _ (by rw [hzc]; exact hjl)] at hy
     injection hy with hy
     have : z.cells[j % z.cells.size]! = u' := by
      rw [hzc,f1]; simp [getElem!_def,q1]
     rw [this] at hy; subst hy; exact q2
    obtain ⟨C,T',hb,hl,hk⟩ := hH.wr hw e1 hv
    have hst := run_storeCells_box (P := P) o' (Builtin.zeroCells z.cells n).toList 0 hb (by simpa using hl) hv.one
    have hr : (Builtin.clear_ #[t] ty #[.slice (some ⟨B,o',none⟩) n c']).run P w = .ok (.tuple #[]) (setCells w B o' (Builtin.zeroCells z.cells n).toList) := by
     simp only [Nat.add_zero] at hst
     have : ∃ k,n = k + 1 := ⟨n - 1,by omega⟩
     obtain ⟨k,rfl⟩ := this
     simp [Builtin.clear_,run_underlying ht,zeroValue,typeInfo,hi0,hz0,hst]
    exact ⟨wr_keeps hw e1,.inl ⟨_,_,r_clear e2 hr,E,En.le_refl _,fun _ _ h => .inl h,hk _ (setCells_chg B _ w o') (setCells_box _ hb),hun.symm⟩⟩
 ·cases h
end
end
end Ev
end
section
namespace Ev
set_option autoImplicit false
section
variable [Tx]
def PsR (G : Nat) (place : Nat → Option (Nat × Nat)) (p : Nat × Operand) (q : Nat × Nat × X) : Prop := place p.1 = some (q.1,q.2.1) ∧ XR G p.2 q.2.2
end
section
variable {P : Program} {G : Nat} {dst : Option Nat} {ty : TypeId} {pos : String} {after : Array Edge} {guard : Option (Nat × Bool)}
theorem foldl_put : ∀ (us : List Value) (C : List Value) (o k : Nat),(us.zipIdx k).foldl (fun cs (p : Value × Nat) => cs.setIfInBounds (o + p.2) p.1) C.toArray = (putAt C (o + k) us).toArray
 |[],C,o,k => rfl
 |u :: us,C,o,k => by
  rw [List.zipIdx_cons,List.foldl_cons]
  have e : C.toArray.setIfInBounds (o + k) u = (C.set (o + k) u).toArray := by simp
  show ((us.zipIdx (k + 1)).foldl _ (C.toArray.setIfInBounds (o + k) u)) = _
  rw [e,foldl_put us (C.set (o + k) u) o (k + 1)]
  rfl
section
variable [Tx]
theorem fill_ok {place : Nat → Option (Nat × Nat)} {E : En} {a : Act} {L : Fr} (hG : GE G E) (hF : FR E L a) : ∀ {ps : List (Nat × Operand)} {qs : List (Nat × Nat × X)} {z l : List AC} {C : List Value},All2 (PsR G place) ps qs → ACs E z C → evP L qs z = some l →
  ∃ cs : List Value,Instr.fill place C.toArray (ps.map fun p => (p.1,a.eval p.2)) = some cs.toArray ∧ ACs E l cs
 |[],[],z,l,C,.nil,hz,h => by
  injection h with h; subst h
  exact ⟨C,rfl,hz⟩
 |p :: ps,q :: qs,z,l,C,.cons hp ht,hz,h => by
  replace h : (match evX L q.2.2 with | some v => cond (v.plain && Nat.beq v.cells.length q.2.1) (match over z q.1 v.cells with | some z' => evP L qs z' | none => none) none | none => none) = some l := h
  split at h
  ·rename_i v hv
   cases hb : (v.plain && Nat.beq v.cells.length q.2.1) with
   |false => rw [hb] at h; cases h
   |true =>
    rw [hb] at h
    obtain ⟨b1,b2⟩ : v.plain = true ∧ Nat.beq v.cells.length q.2.1 = true := by simpa using hb
    replace b2 := Nat.eq_of_beq_eq_true b2
    replace h : (match over z q.1 v.cells with | some z' => evP L qs z' | none => none) = some l := h
    split at h
    ·rename_i z' ho
     obtain ⟨us,h1,h2⟩ := AV.cells_of b1 (hp.2 hG hF hv)
     have hlu := All2.length h2
     have hlC := All2.length hz
     obtain ⟨o1,o2,o3⟩ := over_eq _ _ _ _ ho
     have hput : ACs E z' (putAt C q.1 us) := by
      have hpre := Pre.put (Pre.all2 hz) h2 ho
      refine All2.of_get (by rw [putAt_length,o2,hlC]) fun i x y hx hy => ?_
      obtain ⟨y',g1,g2⟩ := hpre i x hx
      rw [hy] at g1; injection g1 with g1; subst g1; exact g2
     obtain ⟨cs,g1,g2⟩ := fill_ok hG hF ht hput h
     refine ⟨cs,?_,g2⟩
     rw [List.map_cons,Instr.fill,hp.1]
     simp only [h1,List.size_toArray]
     have c : (us.length ≠ q.2.1 || decide (q.1 + us.length > C.length)) = false := by
      rw [hlu,b2,hlC]
      simp; omega
     have c' : ¬ ((decide (us.length ≠ q.2.1) || decide (q.1 + us.length > C.length)) = true) := by
      intro hh
      rw [Bool.or_eq_true] at hh
      rcases hh with hh | hh
      ·exact absurd (of_decide_eq_true hh) (by rw [hlu,b2]; simp)
      ·have := of_decide_eq_true hh; omega
     have e : us.toArray.zipIdx.foldl (fun cs (p : Value × Nat) => cs.setIfInBounds (q.1 + p.2) p.1) C.toArray = (putAt C q.1 us).toArray := by
      have := foldl_put us C q.1 0
      rw [Nat.add_zero] at this
      rw [← this]
      simp [← Array.foldl_toList]
     rw [if_neg (by simpa using c')]
     rw [e]; exact g1
    ·cases h
  ·cases h
theorem V_bld {t : TypeId} {ps : List (Nat × Operand)} {qs : List (Nat × Nat × X)} {place : Nat → Option (Nat × Nat)} {z : Value} {zs : List AC} (hb : ∀ vs,P.built t vs = Instr.fill place z.cells vs) (hz : ∀ E,∃ cs : List Value,z.cells = cs.toArray ∧ ACs E zs cs) (hp : All2 (PsR G place) ps qs) :
  OpV P G ⟨dst,.build t ps.toArray,ty,pos,after,guard⟩ (.bld zs qs) := by
 intro E H w0 w a L run v H' hG hH hF h
 replace h : (match evP L qs zs with | some l => some (AV.a l,H) | none => none) = some (v,H') := h
 split at h
 ·rename_i l h1
  injection h with h; injection h with h2 h3; subst h2
  obtain ⟨C,e1,e2⟩ := hz E
  obtain ⟨cs,g1,g2⟩ := fill_ok hG hF hp e2 h1
  refine ⟨h3.symm,.agg cs.toArray,?_,cs,rfl,g2⟩
  have hr := run_build (P := P) w t (ps.toArray.map fun (i,x) => (i,a.eval x)) cs.toArray (by
   rw [hb,e1]
   simpa using g1)
  simp only [execOp,hr,Sem.run_bind,Result.andThen_ok,Sem.run_pure]
 ·cases h
theorem made_acs {E : En} {zs : List AC} {cs : List Value} (h : ACs E zs cs) (c : Nat) (hs : 0 < zs.length) : ACs E (repl zs c) ((Array.range (c * zs.length)).map (cs.toArray[· % cs.toArray.size]!)).toList := by
 have hlen := All2.length h
 refine All2.of_get (by rw [repl_length]; simp) fun j x y hx hy => ?_
 have hjl : j < c * zs.length := by rw [← repl_length]; exact (List.getElem?_eq_some_iff.1 hx).1
 rw [repl_get zs c j hjl] at hx
 obtain ⟨u,q1,q2⟩ := All2.get h _ _ hx
 have hm : cs.toArray[j % cs.toArray.size]! = u := by
  rw [List.size_toArray,hlen]
  simp [getElem!_def,q1]
 simp only [Array.toList_map,Array.toList_range,List.getElem?_map,List.getElem?_range hjl,Option.map_some,hm] at hy
 injection hy with hy; subst hy; exact q2
theorem A_bsl {t e T n size bytes : Nat} {z : Value} {zs : List AC} {ps : List (Nat × Operand)} {qs : List (Nat × Nat × X)} (ht : P.underlying t = some (.slice e)) (hi : TI P e z size bytes) (hz : ∀ E,∃ cs : List Value,z.cells = cs.toArray ∧ ACs E zs cs) (hzs : zs.length = size) (hsz : 0 < size) (hle : n * size ≤ 2 ^ 24) (hn : 0 < n)
  (hp : All2 (PsR G fun i => some (i * size,size)) ps qs) : OpA P G ⟨dst,.buildSlice t n ps.toArray,ty,pos,after,guard⟩ (.bsl T size n (repl zs n) qs) := by
 intro L run H H' v h
 replace h : (match evP L qs (repl zs n) with | some l => some (AV.c (.sl (some (H.nx,0)) n n size),H.new T l) | none => none) = some (v,H') := h
 split at h
 ·rename_i l h1
  injection h with h; injection h with h2 h3; subst h2; subst h3
  refine ⟨_,rfl,fun _ _ _ _ h => (by cases h),fun {E H2 w0 w a} hG hH hF hg hE => ?_⟩
  obtain ⟨C,e1,e2⟩ := hz E
  subst hzs
  obtain ⟨cs,g1,g2⟩ := fill_ok hG hF hp (made_acs e2 n hsz) h1
  have hr := r_buildSlice (P := P) (ρ := a.eval) (w := w) (dst := dst) (ty := ty) (pos := pos) (after := after) (guard := guard) (t := t) (len := n) (parts := ps.toArray) (cs := cs) rfl ht hi (by rw [Nat.ble_eq]; exact hle) (by rw [Nat.blt_eq]; exact Nat.mul_pos hn hsz) (by
   rw [e1]
   rw [Array.toArray_toList] at g1
   rw [← g1]
   congr 1
   simp)
  have key := hH.real hg hE (Ext.alloc w (.cells cs.toArray e (0,0))) (Nat.le_refl _) (Box.alloc w e cs) (Pre.all2 g2)
  have hl : cs.length = n * zs.length := by
   have := All2.length g2
   have h0 : l.length = (repl zs n).length := by
    have : ∀ (qs : List (Nat × Nat × X)) (z l : List AC),evP L qs z = some l → l.length = z.length := fun qs => by
     induction qs with
     |nil => intro z l h; injection h with h; rw [h]
     |cons q qs ih =>
      intro z l h
      replace h : (match evX L q.2.2 with | some v => cond (v.plain && Nat.beq v.cells.length q.2.1) (match over z q.1 v.cells with | some z' => evP L qs z' | none => none) none | none => none) = some l := h
      split at h
      ·rename_i v _
       cases hb : (v.plain && Nat.beq v.cells.length q.2.1) with
       |false => rw [hb] at h; cases h
       |true =>
        rw [hb] at h
        replace h : (match over z q.1 v.cells with | some z' => evP L qs z' | none => none) = some l := h
        split at h
        ·rename_i z' ho
         rw [ih _ _ h,(over_eq _ _ _ _ ho).2.1]
        ·cases h
      ·cases h
    exact this _ _ _ h1
   rw [this,h0,repl_length]
  exact ⟨_,_,_,En.le_add hE,fun b hb => En.add_other _ _ _ hb,hr,key,w.heap.size,cs.length,0,n,En.add_same _ _ _ _,by simp,Nat.le_refl _,Nat.le_refl _,.inr rfl,by rw [hl]; omega⟩
 ·cases h
theorem A_bsl0 {t e T es size bytes : Nat} {z : Value} (ht : P.underlying t = some (.slice e)) (hi : TI P e z size bytes) : OpA P G ⟨dst,.buildSlice t 0 #[],ty,pos,after,guard⟩ (.bsl T es 0 [] []) := by
 intro L run H H' v h
 replace h : some (AV.c (.sl (some (H.nx,0)) 0 0 es),H.new T []) = some (v,H') := h
 injection h with h; injection h with h2 h3; subst h2; subst h3
 refine ⟨_,rfl,fun _ _ _ _ h => (by cases h),fun {E H2 w0 w a} hG hH hF hg hE => ?_⟩
 have key := hH.real hg hE (Ext.alloc w (.cells ([] : List Value).toArray e (0,0))) (Nat.le_refl _) (Box.alloc w e []) (Pre.all2 All2.nil)
 exact ⟨_,_,_,En.le_add hE,fun b hb => En.add_other _ _ _ hb,r_buildSlice0 ht hi,key,w.heap.size,0,0,0,En.add_same _ _ _ _,by simp,Nat.le_refl _,Nat.le_refl _,.inl rfl,by simp⟩
end
end
section
variable {P : Program} {G : Nat} {dst : Option Nat} {ty : TypeId} {pos : String} {after : Array Edge} {guard : Option (Nat × Bool)}
def kdOf (P : Program) (t : TypeId) : Option Kd := match P.underlying t with
 |some .string => some .s
 |some .bool => some .b
 |some (.int k) => some (.i k)
 |_ => none
def kdsOf (P : Program) : List Field → Nat → Option (List Kd)
 |[],_ => some []
 |f :: fs,o => match kdOf P f.type,kdsOf P fs (o + 1) with
  |some k,some r => cond (Nat.beq f.offset o && !(f.name == "_")) (some (k :: r)) none
  |_,_ => none
section
variable [Tx]
theorem ceq_fe {E : En} {x y : AC} {b c : Bool} {k : Kd} {f : Field} {fs : List Field} {xs ys : Array Value} {u v : Value} (hk : kdOf P f.type = some k) (hn : f.name ≠ "_") (h : ceq k x y = some b) (hx : x.v E u) (hy : y.v E v) (gx : xs[f.offset]? = some u) (gy : ys[f.offset]? = some v) (hf : FE P xs ys fs c) : FE P xs ys (f :: fs) (b && c) := by
 unfold ceq at h
 unfold kdOf at hk
 split at h
 ·rename_i a a'
  have hd : P.underlying f.type = some .string := by
   split at hk <;> first | assumption | (cases hk; done) | (injection hk with hk; cases hk; done)
  injection h with h; subst h
  rw [leqL_eq]
  obtain ⟨rfl,q1⟩ := hx
  obtain ⟨rfl,q2⟩ := hy
  have := fe_str hn hd gx gy hf
  have e : decide (a = a') = decide (a.map UInt8.ofNat = a'.map UInt8.ofNat) := by
   rw [decide_eq_decide]; exact (map_u8_inj q1 q2).symm
  rw [e]; exact this
 ·rename_i kk j a j' a'
  have hd : P.underlying f.type = some (.int kk) := by
   split at hk <;> first | (cases hk; assumption) | (cases hk; done)
  cases hb : (decide (j = kk) && decide (j' = kk)) with
  |false => rw [hb] at h; cases h
  |true =>
   rw [hb] at h
   injection h with h; subst h
   simp only [Bool.and_eq_true,decide_eq_true_eq] at hb
   obtain ⟨rfl,rfl⟩ := hb
   rw [ieq_eq]
   cases hx; cases hy
   exact fe_int hn hd gx gy hf
 ·rename_i a a'
  have hd : P.underlying f.type = some .bool := by
   split at hk <;> first | assumption | (cases hk; done) | (injection hk with hk; cases hk; done)
  injection h with h; subst h
  cases hx; cases hy
  have := fe_bool hn hd gx gy hf
  have e : (a == a') = decide (a = a') := by cases a <;> cases a' <;> rfl
  rw [e]; exact this
 ·cases h
theorem ceqs_fe {E : En} {xs ys : List Value} : ∀ {fs : List Field} {o : Nat} {ks : List Kd} {l r : List AC} {b : Bool},kdsOf P fs o = some ks → ceqs ks l r = some b → ACs E l (xs.drop o) → ACs E r (ys.drop o) → FE P xs.toArray ys.toArray fs b
 |[],o,ks,l,r,b,hk,h,_,_ => by
  injection hk with hk; subst hk
  replace h : (match (generalizing := false) l,r with | [],[] => some true | _,_ => none) = some b := h
  split at h
  ·injection h with h; subst h; exact fe_nil _ _
  ·cases h
 |f :: fs,o,ks,l,r,b,hk,h,hl,hr => by
  unfold kdsOf at hk
  split at hk
  ·rename_i k ks' h1 h2
   cases hc : (Nat.beq f.offset o && !(f.name == "_")) with
   |false => rw [hc] at hk; cases hk
   |true =>
    rw [hc] at hk
    injection hk with hk; subst hk
    simp only [Bool.and_eq_true,Bool.not_eq_true',beq_eq_false_iff_ne] at hc
    obtain ⟨ho,hn⟩ := hc
    have ho := Nat.eq_of_beq_eq_true ho
    replace h : (match (generalizing := false) l,r with
     |x :: l',y :: r' => (match ceq k x y with
      |some true => ceqs ks' l' r'
      |some false => (match ceqs ks' l' r' with | some _ => some false | none => none)
      |none => none)
     |_,_ => none) = some b := h
    split at h
    ·rename_i x l' y r'
     cases hxs : xs.drop o with
     |nil => rw [hxs] at hl; cases hl
     |cons u xs' =>
      cases hys : ys.drop o with
      |nil => rw [hys] at hr; cases hr
      |cons v ys' =>
       rw [hxs] at hl; rw [hys] at hr
       cases hl with
       |cons hx hl =>
        cases hr with
        |cons hy hr =>
         have gx : xs.toArray[f.offset]? = some u := by
          have := congrArg (fun q : List Value => q[0]?) hxs
          simpa [ho] using this
         have gy : ys.toArray[f.offset]? = some v := by
          have := congrArg (fun q : List Value => q[0]?) hys
          simpa [ho] using this
         have e1 : xs' = xs.drop (o + 1) := by
          have := congrArg List.tail hxs
          simpa using this.symm
         have e2 : ys' = ys.drop (o + 1) := by
          have := congrArg List.tail hys
          simpa using this.symm
         subst e1; subst e2
         split at h
         ·rename_i hc
          have := ceqs_fe h2 h hl hr
          have := ceq_fe h1 hn hc hx hy gx gy this
          simpa using this
         ·rename_i hc
          split at h
          ·rename_i b' hb'
           injection h with h; subst h
           have := ceqs_fe h2 hb' hl hr
           have := ceq_fe h1 hn hc hx hy gx gy this
           simpa using this
          ·cases h
         ·cases h
    ·cases h
  ·cases hk
theorem V_aeq {neg : Bool} {t yt : TypeId} {x y : Operand} {x' y' : X} {ks : List Kd} (hg : P.eqGuardType P.depth t = false) (ht : P.underlying t = some (.struct (P.fieldsOf t))) (hp : P.stoodInHeld t = false) (hk : kdsOf P (P.fieldsOf t).toList 0 = some ks) (hx : XR G x x') (hy : XR G y y') :
  OpV P G ⟨dst,.binOp (cond neg .neq .eql) t x y yt,ty,pos,after,guard⟩ (.aeq neg ks x' y') := by
 intro E H w0 w a L run v H' hG hH hF h
 replace h : (match evX L x',evX L y' with | some (.a l),some (.a r) => (match ceqs ks l r with | some b => val H (bV (b != neg)) | none => none) | _,_ => none) = some (v,H') := h
 split at h
 ·rename_i l r h1 h2
  split at h
  ·rename_i b h3
   obtain ⟨h4,h5⟩ := val_eq h
   obtain ⟨xs,e1,e2⟩ := hx hG hF h1
   obtain ⟨ys,e3,e4⟩ := hy hG hF h2
   have hfe := ceqs_fe hk h3 (by simpa using e2) (by simpa using e4)
   have he : EqA P t xs.toArray ys.toArray b := EqA.of hg ht hp rfl hfe rfl
   refine ⟨h5,?_⟩
   cases neg with
   |false => exact ⟨_,r_aeql e1 e3 he,bV_v h4 (by simp)⟩
   |true => exact ⟨_,r_aneq e1 e3 he,bV_v h4 (by cases b <;> rfl)⟩
  ·cases h
 ·cases h
end
end
end Ev
end
section
namespace Ev
set_option autoImplicit false
noncomputable section
def cC : Value → Option AC
 |.bool b => some (.b b)
 |.int k n => some (.i k n)
 |.string s => some (.s (s.data.toList.map UInt8.toNat))
 |.pointer none => some (.p none)
 |.slice none 0 0 => some (.sl none 0 0 0)
 |.map none => some (.m none)
 |.nilFunc => some .nf
 |.nilIface => some .ni
 |_ => none
def cCs (l : List Value) : Option (List AC) := List.rec (some []) (fun v _ ih => match cC v,ih with | some x,some r => some (x :: r) | _,_ => none) l
def cV : Value → Option AV
 |.agg cs => (cCs cs.toList).map .a
 |v => (cC v).map .c
def cX (G : Nat) : Operand → Option X
 |.tmp t => cond (Nat.blt t 256) (some (.t (Slt.of t))) none
 |.const v => (cV v).map .c
 |.global g => cond (Nat.blt g G) (some (.c (.c (.p (some (g,0)))))) none
 |.func f => some (.c (.c (.f f [])))
def cXo (G : Nat) : Option Operand → Option (Option X)
 |none => some none
 |some o => (cX G o).map some
def cXs (G : Nat) (l : List Operand) : Option (List X) := List.rec (some []) (fun o _ ih => match cX G o,ih with | some x,some r => some (x :: r) | _,_ => none) l
def cPs (G : Nat) (place : Nat → Option (Nat × Nat)) (l : List (Nat × Operand)) : Option (List (Nat × Nat × X)) := List.rec (some []) (fun p _ ih => match place p.1,cX G p.2,ih with | some q,some x,some r => some ((q.1,q.2,x) :: r) | _,_,_ => none) l
theorem cond_some {α : Type} {b : Bool} {x y : α} (h : cond b (some x) none = some y) : b = true ∧ x = y := by
 cases b with
 |true => injection h with h; exact ⟨rfl,h⟩
 |false => cases h
section
variable [Tx]
theorem cC_v {v : Value} {x : AC} (h : cC v = some x) (E : En) : x.v E v := by
 unfold cC at h
 split at h <;> first | (injection h with h; subst h; first | rfl | exact ⟨rfl,rfl,rfl⟩) | cases h
 rename_i s
 refine ⟨?_,fun n hn => ?_⟩
 ·have e : (s.data.toList.map UInt8.toNat).map UInt8.ofNat = s.data.toList := by
   rw [List.map_map]
   conv => rhs; rw [← List.map_id s.data.toList]
   apply List.map_congr_left
   intro b _
   simp
  rw [e]
  show Value.string s = .string ⟨s.data.toList.toArray⟩
  rw [Array.toArray_toList]
 ·obtain ⟨b,_,rfl⟩ := List.mem_map.1 hn
  exact b.toNat_lt
theorem cCs_v : ∀ {l : List Value} {xs : List AC},cCs l = some xs → ∀ E : En,ACs E xs l
 |[],xs,h,E => by injection h with h; subst h; exact .nil
 |v :: l,xs,h,E => by
  replace h : (match cC v,cCs l with | some x,some r => some (x :: r) | _,_ => none) = some xs := h
  split at h
  ·rename_i x r h1 h2
   injection h with h; subst h
   exact .cons (cC_v h1 E) (cCs_v h2 E)
  ·cases h
theorem cV_v {v : Value} {x : AV} (h : cV v = some x) (E : En) : x.v E v := by
 unfold cV at h
 split at h
 ·rename_i cs
  obtain ⟨l,h1,rfl⟩ := Option.map_eq_some_iff.1 h
  exact ⟨cs.toList,by rw [Array.toArray_toList],cCs_v h1 E⟩
 ·obtain ⟨y,h1,rfl⟩ := Option.map_eq_some_iff.1 h
  exact cC_v h1 E
theorem cX_ok {G : Nat} {o : Operand} {x : X} (h : cX G o = some x) : XR G o x := by
 unfold cX at h
 split at h
 ·rename_i t
  obtain ⟨ht,rfl⟩ := cond_some h
  have e := Slt.n_of (show t < 256 by simpa [Nat.blt_eq] using ht)
  intro E a L v hG hF hv
  have := XR.tmp G (Slt.of t) hG hF hv
  rw [e] at this; exact this
 ·obtain ⟨y,h1,rfl⟩ := Option.map_eq_some_iff.1 h
  exact XR.const (cV_v h1)
 ·rename_i g
  cases hb : Nat.blt g G with
  |false => rw [hb] at h; cases h
  |true =>
   rw [hb] at h; injection h with h; subst h
   exact XR.global (by simpa [Nat.blt_eq] using hb)
 ·injection h with h; subst h; exact XR.func G _
theorem cXo_ok {G : Nat} {o : Option Operand} {x : Option X} (h : cXo G o = some x) : XRo G o x := by
 cases o with
 |none => injection h with h; subst h; trivial
 |some o =>
  obtain ⟨y,h1,rfl⟩ := Option.map_eq_some_iff.1 (h : (cX G o).map some = some x)
  exact cX_ok h1
theorem cXs_ok {G : Nat} : ∀ {l : List Operand} {xs : List X},cXs G l = some xs → All2 (XR G) l xs
 |[],xs,h => by injection h with h; subst h; exact .nil
 |o :: l,xs,h => by
  replace h : (match cX G o,cXs G l with | some x,some r => some (x :: r) | _,_ => none) = some xs := h
  split at h
  ·rename_i x r h1 h2
   injection h with h; subst h
   exact .cons (cX_ok h1) (cXs_ok h2)
  ·cases h
theorem cPs_ok {G : Nat} {place : Nat → Option (Nat × Nat)} : ∀ {l : List (Nat × Operand)} {qs : List (Nat × Nat × X)},cPs G place l = some qs → All2 (PsR G place) l qs
 |[],qs,h => by injection h with h; subst h; exact .nil
 |p :: l,qs,h => by
  replace h : (match place p.1,cX G p.2,cPs G place l with | some q,some x,some r => some ((q.1,q.2,x) :: r) | _,_,_ => none) = some qs := h
  split at h
  ·rename_i q x r h1 h2 h3
   injection h with h; subst h
   exact .cons ⟨h1,cX_ok h2⟩ (cPs_ok h3)
  ·cases h
end
section
variable (P : Program)
def tiE (t : TypeId) : Option (Value × Nat × Nat) := match P.info? t with
 |some i => (match i.zero with | some z => some (z,i.size,i.bytes) | none => none)
 |none => none
def zcE (t : TypeId) : Option (List AC × Nat × Nat) := match tiE P t with
 |some (z,n,b) => (match cCs z.cells.toList with | some l => cond (Nat.beq l.length n) (some (l,n,b)) none | none => none)
 |none => none
def isU8 (t : TypeId) : Bool := match P.underlying t with
 |some (.int .u8) => true
 |_ => false
end
section
variable {P : Program}
theorem tiE_ok {t : TypeId} {z : Value} {n b : Nat} (h : tiE P t = some (z,n,b)) : TI P t z n b := by
 unfold tiE at h
 split at h
 ·rename_i i hi
  split at h
  ·rename_i z' hz
   injection h with h; injection h with h1 h; injection h with h2 h3
   exact ⟨i,hi,by rw [hz,h1],h2,h3⟩
  ·cases h
 ·cases h
section
variable [Tx]
theorem zcE_ok {t : TypeId} {l : List AC} {n b : Nat} (h : zcE P t = some (l,n,b)) : ∃ z,TI P t z n b ∧ (∀ E,∃ cs : List Value,z.cells = cs.toArray ∧ ACs E l cs) ∧ l.length = n ∧ z.cells.size = n := by
 unfold zcE at h
 split at h
 ·rename_i z n' b' h1
  split at h
  ·rename_i l' h2
   cases hb : Nat.beq l'.length n' with
   |false => rw [hb] at h; cases h
   |true =>
    rw [hb] at h
    injection h with h; injection h with e1 h; injection h with e2 e3
    subst e1; subst e2; subst e3
    have hl := Nat.eq_of_beq_eq_true hb
    have hv := cCs_v h2
    refine ⟨z,tiE_ok h1,fun E => ⟨z.cells.toList,by rw [Array.toArray_toList],hv E⟩,hl,?_⟩
    have := All2.length (hv fun _ => none)
    rw [Array.length_toList] at this
    rw [this,hl]
  ·cases h
 ·cases h
end
theorem isU8_ok {t : TypeId} (h : isU8 P t = true) : P.underlying t = some (.int .u8) := by
 unfold isU8 at h
 split at h
 ·assumption
 ·cases h
end
section
variable [Tx]
structure OK (P : Program) (G : Nat) (o : Oper) (i : I) : Prop where
 v : kindI i ≤ 1 → OpV P G o i
 a : kindI i = 2 → OpA P G o i
 s : OpS P G o i
end
section
variable {P : Program} {G : Nat} {o : Oper} {i : I}
section
variable [Tx]
theorem OK.ofV (h : OpV P G o i) (hk : kindI i ≠ 2) : OK P G o i := ⟨fun _ => h,fun k => absurd k hk,h.s⟩
theorem OK.ofA (h : OpA P G o i) (hk : ¬ kindI i ≤ 1) : OK P G o i := ⟨fun k => absurd k hk,fun _ => h,h.s⟩
theorem OK.ofS (h : OpS P G o i) (hk : kindI i = 3) : OK P G o i := ⟨fun k => absurd k (by omega),fun k => absurd k (by omega),h⟩
theorem OK.bad (o : Oper) : OK P G o .bad := .ofS (fun _ _ _ _ h => by cases h) rfl
end
end
section
variable (P : Program) (G : Nat)
def cBin (op : BinOp) (t : TypeId) (x y : X) : Option I := match P.underlying t with
 |some (.int _) => some (.bin op x y)
 |some .string => some (.bin op x y)
 |some .bool => (match op with | .eql => some (.bq false x y) | .neq => some (.bq true x y) | _ => none)
 |some (.pointer e) => (match tiE P e with
  |some (_,n,_) => cond (Nat.beq n 0) none (match op with | .eql => some (.pq false x y) | .neq => some (.pq true x y) | _ => none)
  |none => none)
 |some (.slice _) => (match op with | .eql => some (.sq false x y) | .neq => some (.sq true x y) | _ => none)
 |some (.struct fs) => cond (P.eqGuardType P.depth t || P.stoodInHeld t) none (match kdsOf P fs.toList 0 with
  |some ks => (match op with | .eql => some (.aeq false ks x y) | .neq => some (.aeq true ks x y) | _ => none)
  |none => none)
 |_ => none
def cUn (op : UnOp) (x : X) : Option I := match op with
 |.not => some (.un .not x)
 |.neg => some (.un .neg x)
 |.xor => some (.un .xor x)
 |.plus => none
def cConv (s d : TypeId) (x : X) : Option I := match P.underlying s,P.underlying d with
 |some (.int _),some (.int k) => some (.cv k x)
 |some (.slice e),some .string => cond (isU8 P e) (some (.b2s x)) none
 |some .string,some (.slice e) => cond (isU8 P e) (some (.s2b e x)) none
 |_,_ => none
def cLoad (t : TypeId) (x : X) : Option I := match P.underlying t with
 |some d => cond (notAgg d) (some (.ld 1 false x)) (match tiE P t with | some (_,n,_) => some (.ld n true x) | none => none)
 |none => none
def cFa (s : TypeId) (i : Nat) (x : X) : Option I := match P.underlying s with
 |some (.struct fs) => (match fs[i]? with
  |some f => (match tiE P f.type with | some (_,n,_) => cond (Nat.beq n 0) none (some (.fa f.offset x)) | none => none)
  |none => none)
 |_ => none
def cFd (s : TypeId) (i : Nat) (x : X) : Option I := match P.underlying s with
 |some (.struct fs) => (match fs[i]? with
  |some f => (match P.underlying f.type with | some d => cond (notAgg d) (some (.fd f.offset 1 false x)) none | none => none)
  |none => none)
 |_ => none
def cIa (t : TypeId) (x y : X) : Option I := match P.underlying t with
 |some (.slice e) => (match tiE P e with | some (_,n,_) => some (.ia n x y) | none => none)
 |some (.array k e) => (match tiE P e with | some (_,n,_) => some (.ip n k x y) | none => none)
 |_ => none
def cIx (t : TypeId) (x y : X) : Option I := match P.underlying t with
 |some .string => some (.sx x y)
 |some (.array k e) => (match P.underlying e,tiE P e with
  |some d,some (_,1,_) => cond (notAgg d) (some (.ix k 1 false x y)) none
  |_,_ => none)
 |_ => none
def cSl (t : TypeId) (x : X) (lo hi : Option X) (mx : Option Operand) (mx' : Option X) : Option I := match P.underlying t with
 |some .string => (match mx with | none => some (.sls x lo hi) | some _ => none)
 |some (.slice e) => (match tiE P e with | some (_,n,_) => cond (mx'.isSome && hi.isNone) none (some (.slc n x lo hi mx')) | none => none)
 |_ => none
def cMks (t : TypeId) (x y : X) : Option I := match P.underlying t with
 |some (.slice e) => (match zcE P e with | some (l,n,b) => cond (Nat.ble b 1048576 && Nat.ble n 256 && Nat.blt 0 n) (some (.mks e n l x y)) none | none => none)
 |_ => none
def placeE (t : TypeId) : Option (Nat → Option (Nat × Nat)) := match P.underlying t with
 |some (.struct fs) => (fs.toList.mapM fun (f : Field) => (P.info? f.type).map fun i => (f.offset,i.size)).map fun pl => (pl.toArray[·]?)
 |some (.array _ e) => (P.info? e).map fun ie i => some (i * ie.size,ie.size)
 |_ => none
def cBld (t : TypeId) (ps : List (Nat × Operand)) : Option I := match placeE P t,zcE P t with
 |some place,some (l,_,_) => (cPs G place ps).map (.bld l)
 |_,_ => none
def cBsl (t : TypeId) (n : Nat) (ps : List (Nat × Operand)) : Option I := match P.underlying t with
 |some (.slice e) => (match n,ps with
  |0,[] => (match tiE P e with | some (_,_,_) => some (.bsl e 1 0 [] []) | none => none)
  |n,ps => (match zcE P e with
   |some (l,s,_) => cond (Nat.blt 0 s && Nat.blt 0 n && Nat.ble (n * s) 16777216) ((cPs G (fun i => some (i * s,s)) ps).map (.bsl e s n (repl l n))) none
   |none => none))
 |_ => none
end
section
variable {P : Program} {G : Nat} {dst : Option Nat} {ty : TypeId} {pos : String} {after : Array Edge} {guard : Option (Nat × Bool)}
section
variable [Tx]
theorem cBin_ok {op : BinOp} {t yt : TypeId} {x y : Operand} {x' y' : X} {i : I} (hx : XR G x x') (hy : XR G y y') (h : cBin P op t x' y' = some i) : OK P G ⟨dst,.binOp op t x y yt,ty,pos,after,guard⟩ i := by
 unfold cBin at h
 split at h
 ·injection h with h; subst h; exact .ofV (V_bin hx hy) (by simp [kindI])
 ·injection h with h; subst h; exact .ofV (V_bin hx hy) (by simp [kindI])
 ·rename_i ht
  split at h
  ·injection h with h; subst h; exact .ofV (V_bq (neg := false) ht hx hy) (by simp [kindI])
  ·injection h with h; subst h; exact .ofV (V_bq (neg := true) ht hx hy) (by simp [kindI])
  ·cases h
 ·rename_i e ht
  have hp : P.pointee t = e := by simp [Program.pointee,ht]
  split at h
  ·rename_i z n b h1
   cases hb : Nat.beq n 0 with
   |true => rw [hb] at h; cases h
   |false =>
    rw [hb] at h
    replace h : (match (generalizing := false) op with | .eql => some (I.pq false x' y') | .neq => some (.pq true x' y') | _ => none) = some i := h
    have h0 : n ≠ 0 := fun e => by subst e; cases hb
    have hti := tiE_ok h1
    subst hp
    split at h
    ·injection h with h; subst h; exact .ofV (V_pq (neg := false) ht hti h0 hx hy) (by simp [kindI])
    ·injection h with h; subst h; exact .ofV (V_pq (neg := true) ht hti h0 hx hy) (by simp [kindI])
    ·cases h
  ·cases h
 ·rename_i e ht
  split at h
  ·injection h with h; subst h; exact .ofV (V_sq (neg := false) ht hx hy) (by simp [kindI])
  ·injection h with h; subst h; exact .ofV (V_sq (neg := true) ht hx hy) (by simp [kindI])
  ·cases h
 ·rename_i fs ht
  have hf : P.fieldsOf t = fs := by simp [Program.fieldsOf,ht]
  cases hb : (P.eqGuardType P.depth t || P.stoodInHeld t) with
  |true => rw [hb] at h; cases h
  |false =>
   rw [hb] at h
   simp only [Bool.or_eq_false_iff] at hb
   replace h : (match kdsOf P fs.toList 0 with
    |some ks => (match (generalizing := false) op with | .eql => some (I.aeq false ks x' y') | .neq => some (.aeq true ks x' y') | _ => none)
    |none => none) = some i := h
   split at h
   ·rename_i ks hk
    subst hf
    split at h
    ·injection h with h; subst h; exact .ofV (V_aeq (neg := false) hb.1 ht hb.2 hk hx hy) (by simp [kindI])
    ·injection h with h; subst h; exact .ofV (V_aeq (neg := true) hb.1 ht hb.2 hk hx hy) (by simp [kindI])
    ·cases h
   ·cases h
 ·cases h
theorem cUn_ok {op : UnOp} {t : TypeId} {x : Operand} {x' : X} {i : I} (hx : XR G x x') (h : cUn op x' = some i) : OK P G ⟨dst,.unOp op t x,ty,pos,after,guard⟩ i := by
 unfold cUn at h
 split at h
 ·injection h with h; subst h; exact .ofV (V_not hx) (by simp [kindI])
 ·injection h with h; subst h; exact .ofV (V_neg hx) (by simp [kindI])
 ·injection h with h; subst h; exact .ofV (V_cpl hx) (by simp [kindI])
 ·cases h
end
theorem cond_none {α : Type} {b : Bool} {x y : α} (h : cond b none (some x) = some y) : b = false ∧ x = y := by
 cases b with
 |false => injection h with h; exact ⟨rfl,h⟩
 |true => cases h
section
variable [Tx]
theorem cConv_ok {s d : TypeId} {x : Operand} {x' : X} {i : I} (hx : XR G x x') (h : cConv P s d x' = some i) : OK P G ⟨dst,.convert s d x,ty,pos,after,guard⟩ i := by
 unfold cConv at h
 split at h
 ·rename_i h1 h2
  injection h with h; subst h
  exact .ofV (V_conv (by rw [h1]; rfl) h2 hx) (by simp [kindI])
 ·rename_i e h1 h2
  obtain ⟨hb,rfl⟩ := cond_some h
  exact .ofV (V_b2s h1 (isU8_ok hb) h2 hx) (by simp [kindI])
 ·rename_i e h1 h2
  obtain ⟨hb,rfl⟩ := cond_some h
  exact .ofA (A_s2b h1 h2 (isU8_ok hb) hx) (by simp [kindI])
 ·cases h
theorem cLoad_ok {t : TypeId} {x : Operand} {x' : X} {i : I} (hx : XR G x x') (h : cLoad P t x' = some i) : OK P G ⟨dst,.load t x,ty,pos,after,guard⟩ i := by
 unfold cLoad at h
 split at h
 ·rename_i d hd
  cases hb : notAgg d with
  |true => rw [hb] at h; injection h with h; subst h; exact .ofV (V_load1 hd hb hx) (by simp [kindI])
  |false =>
   rw [hb] at h
   replace h : (match tiE P t with | some (_,n,_) => some (I.ld n true x') | none => none) = some i := h
   split at h
   ·rename_i h1
    injection h with h; subst h
    exact .ofV (V_loadN hd hb (tiE_ok h1) hx) (by simp [kindI])
   ·cases h
 ·cases h
end
theorem beq_ne {n m : Nat} (h : Nat.beq n m = false) : n ≠ m := fun e => by subst e; rw [Nat.beq_refl] at h; cases h
section
variable [Tx]
theorem cFa_ok {s : TypeId} {j : Nat} {x : Operand} {x' : X} {i : I} (hx : XR G x x') (h : cFa P s j x' = some i) : OK P G ⟨dst,.fieldAddr s x j,ty,pos,after,guard⟩ i := by
 unfold cFa at h
 split at h
 ·rename_i fs hu
  split at h
  ·rename_i f hf
   split at h
   ·rename_i z n b h1
    obtain ⟨hb,rfl⟩ := cond_none h
    exact .ofV (V_fieldAddr hu hf (tiE_ok h1) (beq_ne hb) rfl hx) (by simp [kindI])
   ·cases h
  ·cases h
 ·cases h
theorem cFd_ok {s : TypeId} {j : Nat} {x : Operand} {x' : X} {i : I} (hx : XR G x x') (h : cFd P s j x' = some i) : OK P G ⟨dst,.field s x j,ty,pos,after,guard⟩ i := by
 unfold cFd at h
 split at h
 ·rename_i fs hu
  split at h
  ·rename_i f hf
   split at h
   ·rename_i d hd
    obtain ⟨hb,rfl⟩ := cond_some h
    exact .ofV (V_field hu hf hd hb rfl hx) (by simp [kindI])
   ·cases h
  ·cases h
 ·cases h
theorem cIa_ok {t : TypeId} {x y : Operand} {x' y' : X} {i : I} (hx : XR G x x') (hy : XR G y y') (h : cIa P t x' y' = some i) : OK P G ⟨dst,.indexAddr t x y,ty,pos,after,guard⟩ i := by
 unfold cIa at h
 split at h
 ·rename_i e hu
  split at h
  ·rename_i h1
   injection h with h; subst h
   exact .ofV (V_indexAddr hu (tiE_ok h1) hx hy) (by simp [kindI])
  ·cases h
 ·rename_i k e hu
  split at h
  ·rename_i h1
   injection h with h; subst h
   exact .ofV (V_indexAddrA hu (tiE_ok h1) hx hy) (by simp [kindI])
  ·cases h
 ·cases h
theorem cIx_ok {t : TypeId} {x y : Operand} {x' y' : X} {i : I} (hx : XR G x x') (hy : XR G y y') (h : cIx P t x' y' = some i) : OK P G ⟨dst,.index t x y,ty,pos,after,guard⟩ i := by
 unfold cIx at h
 split at h
 ·rename_i hu
  injection h with h; subst h
  exact .ofV (V_sindex (es := 0) (g := false) hu hx hy) (by simp [kindI])
 ·rename_i k e hu
  split at h
  ·rename_i d z b h1 h2
   obtain ⟨hb,rfl⟩ := cond_some h
   exact .ofV (V_aindex hu h1 hb (tiE_ok h2) hx hy) (by simp [kindI])
  ·cases h
 ·cases h
theorem cSl_ok {t : TypeId} {x : Operand} {x' : X} {lo hi mx : Option Operand} {lo' hi' mx' : Option X} {i : I} (hx : XR G x x') (hl : XRo G lo lo') (hh : XRo G hi hi') (hm : XRo G mx mx') (h : cSl P t x' lo' hi' mx mx' = some i) : OK P G ⟨dst,.slice t x lo hi mx,ty,pos,after,guard⟩ i := by
 unfold cSl at h
 split at h
 ·rename_i hu
  split at h
  ·injection h with h; subst h
   exact .ofV (V_sls hu hx hl hh) (by simp [kindI])
  ·cases h
 ·rename_i e hu
  split at h
  ·rename_i h1
   obtain ⟨hb,rfl⟩ := cond_none h
   refine .ofV (V_slc hu (tiE_ok h1) (fun hs => ?_) hx hl hh hm) (by simp [kindI])
   cases mx with
   |none => cases hs
   |some m =>
    cases mx' with
    |none => exact hm.elim
    |some m' =>
     cases hi with
     |some _ => rfl
     |none =>
      cases hi' with
      |none => cases hb
      |some _ => exact hh.elim
  ·cases h
 ·cases h
theorem cMks_ok {t : TypeId} {x y : Operand} {x' y' : X} {i : I} (hx : XR G x x') (hy : XR G y y') (h : cMks P t x' y' = some i) : OK P G ⟨dst,.makeSlice t x y,ty,pos,after,guard⟩ i := by
 unfold cMks at h
 split at h
 ·rename_i e hu
  split at h
  ·rename_i l n b h1
   obtain ⟨hb,rfl⟩ := cond_some h
   simp only [Bool.and_eq_true,Nat.ble_eq,Nat.blt_eq] at hb
   obtain ⟨z,z1,z2,z3,_⟩ := zcE_ok h1
   exact .ofA (A_mks hu z1 z2 z3 hb.1.1 hb.1.2 hb.2 hx hy) (by simp [kindI])
  ·cases h
 ·cases h
theorem cBld_ok {t : TypeId} {ps : List (Nat × Operand)} {i : I} (h : cBld P G t ps = some i) : OK P G ⟨dst,.build t ps.toArray,ty,pos,after,guard⟩ i := by
 unfold cBld at h
 split at h
 ·rename_i place l n b h1 h2
  obtain ⟨qs,h3,rfl⟩ := Option.map_eq_some_iff.1 h
  obtain ⟨z,⟨it,hi,hz0,_,_⟩,z2,z3,_⟩ := zcE_ok h2
  refine .ofV (V_bld (z := z) (fun vs => ?_) z2 (cPs_ok h3)) (by simp [kindI])
  unfold placeE at h1
  unfold Program.built
  rw [hi]
  split at h1
  ·rename_i fs hu
   rw [hu]
   obtain ⟨pl,h4,rfl⟩ := Option.map_eq_some_iff.1 h1
   simp only [hz0,h4]
  ·rename_i k e hu
   rw [hu]
   obtain ⟨ie,h4,rfl⟩ := Option.map_eq_some_iff.1 h1
   simp only [hz0,h4]
  ·cases h1
 ·cases h
theorem cBsl_ok {t : TypeId} {n : Nat} {ps : List (Nat × Operand)} {i : I} (h : cBsl P G t n ps = some i) : OK P G ⟨dst,.buildSlice t n ps.toArray,ty,pos,after,guard⟩ i := by
 unfold cBsl at h
 split at h
 ·rename_i e hu
  split at h
  ·split at h
   ·rename_i h1
    injection h with h; subst h
    exact .ofA (A_bsl0 hu (tiE_ok h1)) (by simp [kindI])
   ·cases h
  ·split at h
   ·rename_i l s b h1
    cases hb : (Nat.blt 0 s && Nat.blt 0 n && Nat.ble (n * s) 16777216) with
    |false => rw [hb] at h; cases h
    |true =>
     rw [hb] at h
     obtain ⟨qs,h3,rfl⟩ := Option.map_eq_some_iff.1 h
     simp only [Bool.and_eq_true,Nat.ble_eq,Nat.blt_eq] at hb
     obtain ⟨z,z1,z2,z3,_⟩ := zcE_ok h1
     exact .ofA (A_bsl hu z1 z2 z3 hb.1.1 hb.2 hb.1.2 (cPs_ok h3)) (by simp [kindI])
   ·cases h
 ·cases h
end
end
end
end Ev
end
section
namespace Ev
set_option autoImplicit false
section
variable {E : En} {H : AH} {w0 : W0} {w : World}
section
variable [Tx]
theorem HR.setMap (h : HR E H w0 w) {b B S cl cl' : Nat} {es es' : List (List AC × AC × Nat)} {ms' : List MapEntry} (hg : H.get b = some (.map es cl)) (he : E b = some (B,S)) (hm : All2 (entR E) es' ms') :
  HR E (H.set b (.map es' cl')) w0 { w with heap := w.heap.setIfInBounds B (.map ms'.toArray cl') } := by
 obtain ⟨hB,ms,hb,_⟩ := h.mp b es cl B S hg he
 have hlt := (Array.getElem?_eq_some_iff.1 hb).1
 have hc : Chg [B] w { w with heap := w.heap.setIfInBounds B (.map ms'.toArray cl') } := ⟨rfl,rfl,rfl,by simp,fun i _ hi => by simp [Ne.symm (show i ≠ B by simpa using hi)]⟩
 have hch : Kept w0 { w with heap := w.heap.setIfInBounds B (.map ms'.toArray cl') } := Kept.fresh h.ch hc (by simpa using hB)
 have keep : ∀ {B' : Nat} {o : Obj},B' ≠ B → w.heap[B']? = some o → (w.heap.setIfInBounds B (.map ms'.toArray cl'))[B']? = some o := fun hne hb' => by
  rw [Array.getElem?_setIfInBounds_ne (Ne.symm hne)]; exact hb'
 have hget : ∀ x,(H.set b (.map es' cl')).get x = if x = b then some (.map es' cl') else H.get x := fun x => AH.get_set _ _ _ _
 have hatx : ∀ x,x ≠ b → (H.set b (.map es' cl')).at x = H.at x := fun x hx => by unfold AH.at; rw [hget,if_neg hx]; rfl
 have hatb : (H.set b (.map es' cl')).at b = none := by unfold AH.at; rw [hget,if_pos rfl]
 have hbn : H.at b = none := by unfold AH.at; rw [hg]
 have hlv : ∀ x,live (H.set b (.map es' cl')) x → live H x := fun x hl => by
  by_cases hx : x = b
  ·subst hx; exact .inr ⟨es,cl,hg⟩
  ·rcases hl with hl | ⟨es2,c2,hl⟩
   ·rw [hatx x hx] at hl; exact .inl hl
   ·rw [hget,if_neg hx] at hl; exact .inr ⟨es2,c2,hl⟩
 have hap : ∀ {x : Nat} {p : Nat × Nat},x ≠ b → E x = some p → live H x → p.1 ≠ B := fun {x p} hx hp hl e => by
  obtain ⟨f,e',T1,c1,T2,c2,h1,_⟩ := h.inj b x B S p.2 (Ne.symm hx) he (by rw [hp,← e]) (.inr ⟨es,cl,hg⟩) hl
  rw [hbn] at h1; cases h1
 refine ⟨fun x p hp => Nat.lt_of_lt_of_le (h.lt x p hp) hc.size,h.wp,hch,h.dom,fun x o hx => ?_,h.fkey,fun x T c f e hx => ?_,fun x T c f e hx => ?_,fun x T c l B1 S1 hx hp => ?_,fun x es1 cl1 B1 S1 hx hp => ?_,fun x y B1 S1 S2 hxy hp hq hl1 hl2 => ?_,fun x v B1 S1 hx hp => by
  have hxb : x ≠ b := fun e => by subst e; rw [hget,if_pos rfl] at hx; cases hx
  rw [hget,if_neg hxb] at hx
  exact (h.ls x v B1 S1 hx hp).chg (Ne.symm hxb) he hc⟩
 ·rw [hget] at hx
  by_cases hxb : x = b
  ·subst hxb; exact h.key _ _ hg
  ·rw [if_neg hxb] at hx; exact h.key _ _ hx
 ·rw [hget] at hx
  by_cases hxb : x = b
  ·rw [if_pos hxb] at hx; cases hx
  ·rw [if_neg hxb] at hx; exact h.bf x T c f e hx
 ·have hxb : x ≠ b := fun e => by subst e; rw [hatb] at hx; cases hx
  rw [hatx x hxb] at hx
  obtain ⟨q,T',c',h1,h2,h3⟩ := h.las x T c f e hx
  have hq : q ≠ b := fun e => by subst e; rw [hbn] at h2; cases h2
  exact ⟨q,T',c',h1,by rw [hatx q hq]; exact h2,h3⟩
 ·have hxb : x ≠ b := fun e => by subst e; rw [hatb] at hx; cases hx
  rw [hatx x hxb] at hx
  obtain ⟨C,T',fz,h1,h2⟩ := h.cel x T c l B1 S1 hx hp
  exact ⟨C,T',fz,keep (hap hxb hp (.inl (by rw [hx]; rfl))) h1,h2⟩
 ·rw [hget] at hx
  by_cases hxb : x = b
  ·subst hxb
   rw [if_pos rfl] at hx; injection hx with hx; injection hx with e1 e2; subst e1; subst e2
   rw [he] at hp; injection hp with hp; injection hp with e1 e2; subst e1
   exact ⟨hB,ms',by simp [hlt],hm⟩
  ·rw [if_neg hxb] at hx
   obtain ⟨h0,ms1,h1,h2⟩ := h.mp x es1 cl1 B1 S1 hx hp
   exact ⟨h0,ms1,keep (hap hxb hp (.inr ⟨es1,cl1,hx⟩)) h1,h2⟩
 ·obtain ⟨f,e,T,c,T',c',h1,h2⟩ := h.inj x y B1 S1 S2 hxy hp hq (hlv x hl1) (hlv y hl2)
  have hxb : x ≠ b := fun e => by subst e; rw [hbn] at h1; cases h1
  have hyb : y ≠ b := fun e => by subst e; rw [hbn] at h2; cases h2
  exact ⟨f,e,T,c,T',c',by rw [hatx x hxb]; exact h1,by rw [hatx y hyb]; exact h2⟩
end
theorem map_keeps {b B S cl cl' : Nat} {es es' : List (List AC × AC × Nat)} (_ : H.get b = some (.map es cl)) (he : E b = some (B,S)) : Keeps E H (H.set b (.map es' cl')) :=
 ⟨Nat.le_refl _,fun x _ hx => (AH.get_set _ _ _ _).trans (if_neg fun e => by subst e; rw [he] at hx; cases hx)⟩
end
section
variable [Tx]
structure MK (P : Program) (t kt et : TypeId) (ks : List Kd) (z : AC) : Prop where
 mu : P.underlying t = some (.map kt et)
 ku : P.underlying kt = some (.struct (P.fieldsOf kt))
 ks : kdsOf P (P.fieldsOf kt).toList 0 = some ks
 hg : P.eqGuardType P.depth kt = false
 hp : P.stoodInHeld kt = false
 zero : ∃ (u : Value) (n b : Nat),TI P et u n b ∧ ∀ E,z.v E u
end
section
variable {P : Program} {E : En} {w : World}
theorem kdsOf_fields : ∀ {fs : List Field} {o : Nat} {ks : List Kd},kdsOf P fs o = some ks → ks.length = fs.length ∧ ∀ f ∈ fs,f.name ≠ "_" ∧ f.offset < o + fs.length ∧ ∃ d,P.underlying f.type = some d ∧ (d = .string ∨ d = .bool ∨ ∃ k,d = .int k)
 |[],o,ks,h => by injection h with h; subst h; exact ⟨rfl,fun f hf => by cases hf⟩
 |f :: fs,o,ks,h => by
  unfold kdsOf at h
  split at h
  ·rename_i k r h1 h2
   obtain ⟨hb,rfl⟩ := cond_some h
   simp only [Bool.and_eq_true,Bool.not_eq_true',beq_eq_false_iff_ne] at hb
   obtain ⟨i1,i2⟩ := kdsOf_fields h2
   refine ⟨by simp [i1],fun g hg => ?_⟩
   rcases List.mem_cons.1 hg with rfl | hg
   ·refine ⟨hb.2,by have := Nat.eq_of_beq_eq_true hb.1; simp; omega,?_⟩
    unfold kdOf at h1
    split at h1
    ·rename_i hd; exact ⟨_,hd,.inl rfl⟩
    ·rename_i hd; exact ⟨_,hd,.inr (.inl rfl)⟩
    ·rename_i k hd; exact ⟨_,hd,.inr (.inr ⟨k,rfl⟩)⟩
    ·cases h1
   ·obtain ⟨j1,j2,j3⟩ := i2 g hg
    exact ⟨j1,by simp; omega,j3⟩
  ·cases h
section
variable [Tx]
theorem key_ok {t kt et : TypeId} {ks : List Kd} {z : AC} (hm : MK P t kt et ks z) (em : Bool) {cs : List Value} (hl : cs.length = ks.length) (n : Nat) : (Instr.checkKey em ((n + 1) + 1) kt (.agg cs.toArray)).run P w = .ok () w := by
 obtain ⟨k1,k2⟩ := kdsOf_fields hm.ks
 rw [Instr.checkKey]
 simp only [Sem.run_bind,run_underlying hm.ku,Result.andThen_ok]
 rw [← Array.forIn_toList]
 have all : ∀ f ∈ (P.fieldsOf kt).toList,f.name ≠ "_" ∧ f.offset < cs.length ∧ ∃ d,P.underlying f.type = some d ∧ (d = .string ∨ d = .bool ∨ ∃ k,d = .int k) := fun f hf => by
  obtain ⟨j1,j2,j3⟩ := k2 f hf
  exact ⟨j1,by omega,j3⟩
 generalize (P.fieldsOf kt).toList = L at all
 induction L with
 |nil => simp
 |cons f L ih =>
  obtain ⟨j1,j2,d,j3,j4⟩ := all f (by simp)
  have hn : notAgg d = true := by rcases j4 with rfl | rfl | ⟨k,rfl⟩ <;> rfl
  have p1 : (part f.type cs.toArray f.offset).run P w = .ok cs[f.offset] w := run_part1 j3 hn (by simp [j2]) w
  have p2 : (Instr.checkKey em (n + 1) f.type cs[f.offset]).run P w = .ok () w := by
   rw [Instr.checkKey]
   simp only [Sem.run_bind,run_underlying j3,Result.andThen_ok]
   rcases j4 with rfl | rfl | ⟨k,rfl⟩ <;> simp
  simp only [List.forIn_cons,Sem.run_bind,j1,ne_eq,not_false_eq_true,if_true,Result.andThen_ok,p1,p2,Sem.run_pure]
  exact ih fun f hf => all f (by simp [hf])
theorem key_ask {t kt et : TypeId} {ks : List Kd} {z : AC} (hm : MK P t kt et ks z) {l : List AC} {cs : List Value} (hk : ACs E l cs) : ∀ {es : List (List AC × AC × Nat)} {ms : List MapEntry} {r : Option (AC × Nat)} (i : Nat),All2 (entR E) es ms → mfind ks es l = some r →
  ∃ q,(Instr.findAsking kt (.agg cs.toArray) ms i).run P w = .ok q w ∧ (match (generalizing := false) r with | none => q = none | some (x,_) => ∃ j u,q = some (j,u) ∧ x.v E u)
 |[],[],r,i,.nil,h => by
  injection h with h; subst h
  exact ⟨none,by simp [Instr.findAsking],rfl⟩
 |e :: es,m :: ms,r,i,.cons he ht,h => by
  replace h : (match ceqs ks l e.1 with
   |some true => some (some e.2)
   |some false => mfind ks es l
   |none => none) = some r := h
  obtain ⟨e1,e2,ys,e3,e4⟩ := he
  have eq : ∀ b,ceqs ks l e.1 = some b → (Op.equal kt (.agg cs.toArray) m.key).run P w = .ok b w := fun b hb => by
   rw [e3]
   have hfe := ceqs_fe hm.ks hb (xs := cs) (ys := ys) (by simpa using hk) (by simpa using e4)
   have := EqA.of hm.hg hm.ku hm.hp rfl hfe rfl
   exact this.2 w
  rw [Instr.findAsking]
  split at h
  ·rename_i hb
   injection h with h; subst h
   refine ⟨some (i,m.val),?_,?_⟩
   ·simp [eq _ hb,Result.andThen]
   ·exact ⟨i,m.val,rfl,e2⟩
  ·rename_i hb
   obtain ⟨q,q1,q2⟩ := key_ask hm hk (i + 1) ht h
   exact ⟨q,by simp [eq _ hb,q1,Result.andThen],q2⟩
  ·cases h
theorem key_find {t kt et : TypeId} {ks : List Kd} {z : AC} (hm : MK P t kt et ks z) {l : List AC} {cs : List Value} (hk : ACs E l cs) {es : List (List AC × AC × Nat)} {ms : List MapEntry} {r : Option (AC × Nat)} (ha : All2 (entR E) es ms) (h : mfind ks es l = some r) :
  ∃ q,(Instr.findKey kt (.agg cs.toArray) ms).run P w = .ok q w ∧ (match (generalizing := false) r with | none => q = none | some (x,_) => ∃ j u,q = some (j,u) ∧ x.v E u) := by
 rw [Instr.findKey]
 simp only [Sem.run_bind,run_underlying hm.ku,Result.andThen_ok]
 cases ms with
 |nil =>
  cases ha
  injection h with h; subst h
  exact ⟨none,by simp [Instr.findNow],rfl⟩
 |cons m ms =>
  have hn : Instr.findNow (.struct (P.fieldsOf kt)) (.agg cs.toArray) (m :: ms) 0 = none := rfl
  rw [hn]
  exact key_ask hm hk 0 ha h
end
theorem mget_eq {H : AH} {ks : List Kd} {b : Nat} {l : List AC} {r : Option (AC × Nat)} (h : mget ks H b l = some r) : l.length = ks.length ∧ ∃ es c,H.get b = some (.map es c) ∧ mfind ks es l = some r := by
 unfold mget at h
 cases hb : Nat.beq l.length ks.length with
 |false => rw [hb] at h; cases h
 |true =>
  rw [hb] at h
  replace h : (match H.get b with | some (.map es _) => mfind ks es l | _ => none) = some r := h
  split at h
  ·rename_i es c hg
   exact ⟨Nat.eq_of_beq_eq_true hb,es,c,hg,h⟩
  ·cases h
end
section
variable {P : Program} {ρ : Operand → Value} {w w' : World} {dst : Option Nat} {ty : TypeId} {pos : String} {after : Array Edge} {guard : Option (Nat × Bool)}
theorem r_mapEntry' {t : TypeId} {m k : Operand} {v1 v2 v : Value} (hm : ρ m = v1) (hk : ρ k = v2) (hr : (Instr.mapEntry t v1 v2).run P w = .ok v w') : (execOp ρ ⟨dst,.mapEntry t m k,ty,pos,after,guard⟩).run P w = .ok (.value v) w' := by
 simp [execOp,hm,hk,hr]
theorem r_entryStore' {t : TypeId} {m k x : Operand} {v1 v2 v3 : Value} (hm : ρ m = v1) (hk : ρ k = v2) (hx : ρ x = v3) (hr : (Instr.entryStore t v1 v2 v3).run P w = .ok () w') : (execOp ρ ⟨dst,.entryStore t m k x,ty,pos,after,guard⟩).run P w = .ok .skip w' := by
 simp [execOp,hm,hk,hx,hr]
end
section
variable {P : Program} {G : Nat} {dst : Option Nat} {ty : TypeId} {pos : String} {after : Array Edge} {guard : Option (Nat × Bool)}
section
variable [Tx]
theorem run_lookupM {E : En} {w : World} {t kt et B : Nat} {ks : List Kd} {z : AC} (hm : MK P t kt et ks z) (ok : Bool) {l : List AC} {cs : List Value} (hk : ACs E l cs) (hl : l.length = ks.length) {es : List (List AC × AC × Nat)} {ms : List MapEntry} {c : Nat} {r : Option (AC × Nat)} (hb : w.heap[B]? = some (.map ms.toArray c)) (ha : All2 (entR E) es ms) (h : mfind ks es l = some r) :
  ∃ u,(Instr.lookup t (.map (some B)) (.agg cs.toArray) ok).run P w = .ok (if ok = true then .tuple #[u,.bool r.isSome] else u) w ∧ ((r.map (·.1)).getD z).v E u := by
 obtain ⟨q,q1,q2⟩ := key_find (w := w) hm hk ha h
 obtain ⟨zu,zn,zb,z1,z2⟩ := hm.zero
 have hck := key_ok (w := w) hm ms.toArray.isEmpty (cs := cs) (by rw [All2.length hk,hl]) 9998
 cases r with
 |none =>
  have q2 : q = none := q2
  subst q2
  refine ⟨zu,?_,z2 E⟩
  simp only [Instr.lookup,Sem.run_bind,run_underlying hm.mu,Go.MapKept.run_getObj_map hb,Result.andThen_ok,Sem.run_pure,hck,q1,z1.zeroValue]
  rfl
 |some x =>
  obtain ⟨j,u,q3,q4⟩ : ∃ j u,q = some (j,u) ∧ x.1.v E u := q2
  subst q3
  refine ⟨u,?_,q4⟩
  simp only [Instr.lookup,Sem.run_bind,run_underlying hm.mu,Go.MapKept.run_getObj_map hb,Result.andThen_ok,Sem.run_pure,hck,q1]
  rfl
theorem V_lkp {t kt et : TypeId} {ks : List Kd} {z : AC} {x y : Operand} {x' y' : X} (hm : MK P t kt et ks z) (hx : XR G x x') (hy : XR G y y') : OpV P G ⟨dst,.lookup t x y false,ty,pos,after,guard⟩ (.lkp ks z x' y') := by
 intro E H w0 w a L run v H' hG hH hF h
 replace h : (match evX L x',evX L y' with | some (.c (.m (some b))),some (.a l) => (match mget ks H b l with | some (some (v,_)) => some (AV.c v,H) | some none => some (.c z,H) | none => none) | _,_ => none) = some (v,H') := h
 split at h
 ·rename_i b l h1 h2
  obtain ⟨B,S,e1,e2⟩ := hx hG hF h1
  obtain ⟨cs,g1,g2⟩ := hy hG hF h2
  have go : ∀ r,mget ks H b l = some r → ∃ u,(execOp a.eval ⟨dst,.lookup t x y false,ty,pos,after,guard⟩).run P w = .ok (.value u) w ∧ ((r.map (·.1)).getD z).v E u := fun r hr => by
   obtain ⟨k1,es,c,k2,k3⟩ := mget_eq hr
   obtain ⟨_,ms,m1,m2⟩ := hH.mp b es c B S k2 e1
   obtain ⟨u,u1,u2⟩ := run_lookupM (P := P) (w := w) hm false g2 k1 m1 m2 k3
   exact ⟨u,r_lookup e2 g1 (by simpa using u1),u2⟩
  split at h
  ·rename_i v' n hr
   injection h with h; injection h with h3 h4; subst h3
   obtain ⟨u,u1,u2⟩ := go _ hr
   exact ⟨h4.symm,u,u1,u2⟩
  ·rename_i hr
   injection h with h; injection h with h3 h4; subst h3
   obtain ⟨u,u1,u2⟩ := go _ hr
   exact ⟨h4.symm,u,u1,u2⟩
  ·cases h
 ·cases h
theorem S_men {t kt et : TypeId} {ks : List Kd} {z : AC} {x y : Operand} {x' y' : X} (hm : MK P t kt et ks z) (hx : XR G x x') (hy : XR G y y') : OpS P G ⟨dst,.mapEntry t x y,ty,pos,after,guard⟩ (.men ks z x' y') := by
 intro E H w0 w a L run v H' _ hG hH hF h
 replace h : (match evX L x',evX L y' with | some (.c (.m (some b))),some (.a l) => (match H.get b with | some (.map es c) => (match mget ks H b l with | some none => some (AV.t [(false,[z]),(false,[.i .i64 (.ofNat c)])],H.set b (.map (es ++ [(l,z,c)]) (Nat.succ c))) | _ => none) | _ => none) | _,_ => none) = some (v,H') := h
 split at h
 ·rename_i b l h1 h2
  obtain ⟨B,S,e1,e2⟩ := hx hG hF h1
  obtain ⟨cs,g1,g2⟩ := hy hG hF h2
  split at h
  ·rename_i es c hg
   split at h
   ·rename_i hr
    injection h with h; injection h with h3 h4; subst h3; subst h4
    obtain ⟨k1,es',c',k2,k3⟩ := mget_eq hr
    rw [hg] at k2; injection k2 with k2; injection k2 with i1 i2; subst i1; subst i2
    obtain ⟨_,ms,m1,m2⟩ := hH.mp b es c B S hg e1
    obtain ⟨q,q1,q2⟩ := key_find (w := w) hm g2 m2 k3
    have q2 : q = none := q2
    subst q2
    obtain ⟨zu,zn,zb,z1,z2⟩ := hm.zero
    have hck := key_ok (w := w) hm false (cs := cs) (by rw [All2.length g2,k1]) 9998
    have hnew : All2 (entR E) (es ++ [(l,z,c)]) (ms ++ [⟨.agg cs.toArray,zu,c⟩]) := m2.append (All2.cons (show entR E (l,z,c) ⟨.agg cs.toArray,zu,c⟩ from ⟨rfl,z2 E,cs,rfl,g2⟩) .nil)
    refine ⟨map_keeps hg e1,.inl ⟨.tuple #[zu,.int .i64 (c : Int)],{ w with heap := w.heap.setIfInBounds B (.map (ms ++ [(⟨.agg cs.toArray,zu,c⟩ : MapEntry)]).toArray (c + 1)) },r_mapEntry' e2 g1 ?_,E,En.le_refl _,fun _ _ h => .inl h,hH.setMap hg e1 hnew,[zu,.int .i64 (c : Int)],rfl,.cons (show gV E false [z] zu from ⟨z,rfl,z2 E⟩) (.cons (show gV E false [.i .i64 (.ofNat c)] (.int .i64 (c : Int)) from ⟨_,rfl,rfl⟩) .nil)⟩⟩
    simp only [Instr.mapEntry,Sem.run_bind,run_underlying hm.mu,Go.MapKept.run_getObj_map m1,Result.andThen_ok,hck,q1,z1.zeroValue,Go.MapKept.run_setObj_map _ m1,Sem.run_pure]
    simp [goInt]
   ·cases h
  ·cases h
 ·cases h
theorem mset_ok {E : En} {n : Nat} {x : AC} {u : Value} (hu : x.v E u) : ∀ {es es' : List (List AC × AC × Nat)} {ms : List MapEntry},All2 (entR E) es ms → mset es n x = some es' → ∃ i,ms.findIdx? (fun e => (e.born : Int) == (n : Int)) = some i ∧ All2 (entR E) es' (ms.modify i fun e => { e with val := u })
 |[],es',_,.nil,h => by cases h
 |e :: es,es',m :: ms,.cons he ht,h => by
  replace h : (match Nat.beq e.2.2 n with | true => some ((e.1,x,n) :: es) | false => (match mset es n x with | some r' => some (e :: r') | none => none)) = some es' := h
  obtain ⟨e1,e2,e3⟩ := he
  cases hb : Nat.beq e.2.2 n with
  |true =>
   rw [hb] at h
   injection h with h; subst h
   have hn := Nat.eq_of_beq_eq_true hb
   refine ⟨0,?_,?_⟩
   ·rw [List.findIdx?_cons]; simp [e1,hn]
   ·rw [List.modify_zero_cons]
    exact .cons ⟨by show m.born = n; rw [e1,hn],hu,e3⟩ ht
  |false =>
   rw [hb] at h
   replace h : (match mset es n x with | some r' => some (e :: r') | none => none) = some es' := h
   split at h
   ·rename_i r' hr
    injection h with h; subst h
    obtain ⟨i,i1,i2⟩ := mset_ok hu ht hr
    have hn := beq_ne hb
    refine ⟨i + 1,?_,?_⟩
    ·rw [List.findIdx?_cons]
     have : ((m.born : Int) == (n : Int)) = false := by
      rw [e1]; simp only [beq_eq_false_iff_ne,ne_eq,Int.natCast_inj]; exact hn
     simp [this,i1]
    ·rw [List.modify_succ_cons]
     exact .cons ⟨e1,e2,e3⟩ i2
   ·cases h
theorem S_est {t : TypeId} {x y z : Operand} {x' y' z' : X} (hx : XR G x x') (hy : XR G y y') (hz : XR G z z') : OpS P G ⟨dst,.entryStore t x y z,ty,pos,after,guard⟩ (.est x' y' z') := by
 intro E H w0 w a L run v H' _ hG hH hF h
 replace h : (match evX L x',idx (evX L y'),evX L z' with | some (.c (.m (some b))),some n,some (.c v) => (match H.get b with | some (.map es c) => (match mset es n v with | some es' => some (AV.u,H.set b (.map es' c)) | none => none) | _ => none) | _,_,_ => none) = some (v,H') := h
 split at h
 ·rename_i b n v' h1 h2 h3
  obtain ⟨B,S,e1,e2⟩ := hx hG hF h1
  obtain ⟨k,hk⟩ := idx_eq h2
  have g1 : a.eval y = .int k (.ofNat n) := hy hG hF hk
  have g2 : v'.v E (a.eval z) := hz hG hF h3
  split at h
  ·rename_i es c hg
   split at h
   ·rename_i es' hs
    injection h with h; injection h with h4 h5; subst h4; subst h5
    obtain ⟨_,ms,m1,m2⟩ := hH.mp b es c B S hg e1
    obtain ⟨i,i1,i2⟩ := mset_ok g2 m2 hs
    have hmod : (ms.toArray.modify i fun e => { e with val := a.eval z }) = (ms.modify i fun e => { e with val := a.eval z }).toArray := by
     apply Array.ext'
     rw [Array.toList_modify]
    refine ⟨map_keeps hg e1,.inr (.inl ⟨{ w with heap := w.heap.setIfInBounds B (.map (ms.modify i fun e => { e with val := a.eval z }).toArray c) },r_entryStore' e2 g1 rfl ?_,rfl,E,En.le_refl _,fun _ _ h => .inl h,hH.setMap hg e1 i2,rfl⟩)⟩
    have hf' : ms.toArray.findIdx? (fun e => (e.born : Int) == (Int.ofNat n)) = some i := by simpa using i1
    simp only [Instr.entryStore,Sem.run_bind,Go.MapKept.run_getObj_map m1,Result.andThen_ok,asInt,asIntOf,Sem.run_pure,hf',hmod,Go.MapKept.run_setObj_map _ m1]
   ·cases h
  ·cases h
 ·cases h
theorem V_ustr {t u : TypeId} {x y : Operand} {x' y' : X} (hx : XR G x x') (hy : XR G y y') : OpV P G ⟨dst,.call { callee := .builtin .unsafeString,args := #[x,y],argTypes := #[t,u] },ty,pos,after,guard⟩ (.ustr x' y') := by
 intro E H w0 w a L run v H' hG hH hF h
 replace h : (match evX L x',evX L y' with | some (.c (.p _)),some (.c (.i .i64 (.ofNat 0))) => some (AV.c (.s []),H) | _,_ => none) = some (v,H') := h
 split at h
 ·rename_i p h1 h2
  injection h with h; injection h with h3 h4; subst h3
  obtain ⟨o,g1,_⟩ := isN_p (hx hG hF h1)
  have g2 : a.eval y = .int .i64 0 := hy hG hF h2
  refine ⟨h4.symm,.string .empty,?_,rfl,by simp⟩
  have := Lib.run_unsafeString_none (P := P) (w := w) t u ty o
  simp [execOp,resolve,invoke,builtin,g1,g2,this]
 ·cases h
end
end
noncomputable section
def mkOf (P : Program) (t : TypeId) : Option (List Kd × AC) := match P.underlying t with
 |some (.map kt et) => (match P.underlying kt with
  |some (.struct fs) => cond (P.eqGuardType P.depth kt || P.stoodInHeld kt) none (match kdsOf P fs.toList 0,tiE P et with
   |some ks,some (u,_,_) => (cC u).map fun z => (ks,z)
   |_,_ => none)
  |_ => none)
 |_ => none
section
variable [Tx]
theorem mkOf_ok {P : Program} {t : TypeId} {ks : List Kd} {z : AC} (h : mkOf P t = some (ks,z)) : ∃ kt et,MK P t kt et ks z := by
 unfold mkOf at h
 split at h
 ·rename_i kt et h1
  split at h
  ·rename_i fs h2
   have hf : P.fieldsOf kt = fs := by simp [Program.fieldsOf,h2]
   subst hf
   cases hb : (P.eqGuardType P.depth kt || P.stoodInHeld kt) with
   |true => rw [hb] at h; cases h
   |false =>
    rw [hb] at h
    simp only [Bool.or_eq_false_iff] at hb
    replace h : (match kdsOf P (P.fieldsOf kt).toList 0,tiE P et with | some ks,some (u,_,_) => (cC u).map fun z => (ks,z) | _,_ => none) = some (ks,z) := h
    split at h
    ·rename_i ks' u n b h3 h4
     obtain ⟨z',h5,h6⟩ := Option.map_eq_some_iff.1 h
     injection h6 with h6 h7; subst h6; subst h7
     exact ⟨kt,et,h1,h2,h3,hb.1,hb.2,u,n,b,tiE_ok h4,cC_v h5⟩
    ·cases h
  ·cases h
 ·cases h
def cUstr (_t : TypeId) (x y : X) : Option I := some (.ustr x y)
def cLkp (P : Program) (t : TypeId) (ok : Bool) (x y : X) : Option I := match ok,mkOf P t with
 |false,some (ks,z) => some (.lkp ks z x y)
 |_,_ => none
def cMen (P : Program) (t : TypeId) (x y : X) : Option I := match mkOf P t with
 |some (ks,z) => some (.men ks z x y)
 |_ => none
def cEst (_t : TypeId) (x y z : X) : Option I := some (.est x y z)
end
end
section
variable {P : Program} {G : Nat} {dst : Option Nat} {ty : TypeId} {pos : String} {after : Array Edge} {guard : Option (Nat × Bool)}
section
variable [Tx]
theorem cUstr_ok {t u : TypeId} {x y : Operand} {x' y' : X} {i : I} (hx : XR G x x') (hy : XR G y y') (h : cUstr t x' y' = some i) : OK P G ⟨dst,.call { callee := .builtin .unsafeString,args := #[x,y],argTypes := #[t,u] },ty,pos,after,guard⟩ i := by
 injection h with h; subst h
 exact .ofV (V_ustr hx hy) (by simp [kindI])
theorem cLkp_ok {t : TypeId} {ok : Bool} {x y : Operand} {x' y' : X} {i : I} (hx : XR G x x') (hy : XR G y y') (h : cLkp P t ok x' y' = some i) : OK P G ⟨dst,.lookup t x y ok,ty,pos,after,guard⟩ i := by
 unfold cLkp at h
 split at h
 ·rename_i ks z hm
  injection h with h; subst h
  obtain ⟨kt,et,hm⟩ := mkOf_ok hm
  exact .ofV (V_lkp hm hx hy) (by simp [kindI])
 ·cases h
theorem cMen_ok {t : TypeId} {x y : Operand} {x' y' : X} {i : I} (hx : XR G x x') (hy : XR G y y') (h : cMen P t x' y' = some i) : OK P G ⟨dst,.mapEntry t x y,ty,pos,after,guard⟩ i := by
 unfold cMen at h
 split at h
 ·rename_i ks z hm
  injection h with h; subst h
  obtain ⟨kt,et,hm⟩ := mkOf_ok hm
  exact .ofS (S_men hm hx hy) rfl
 ·cases h
theorem cEst_ok {t : TypeId} {x y z : Operand} {x' y' z' : X} {i : I} (hx : XR G x x') (hy : XR G y y') (hz : XR G z z') (h : cEst t x' y' z' = some i) : OK P G ⟨dst,.entryStore t x y z,ty,pos,after,guard⟩ i := by
 injection h with h; subst h
 exact .ofS (S_est hx hy hz) rfl
end
end
end Ev
end
section
namespace Ev
set_option autoImplicit false
noncomputable section
def mvX (op : Op) : Option Operand := match op with
 |.move x => some x
 |.assign x => some x
 |_ => none
def menT (t : Nat) : X → Bool
 |.t s => Nat.beq s.n t
 |.c _ => false
def killO (d : Option Slt) (σ : List (Nat × X)) : List (Nat × X) := match d with
 |some d => σ.filter fun p => !(Nat.beq p.1 d.n) && !(menT d.n p.2)
 |none => σ
def killN (d : Nat) (σ : List (Nat × X)) : List (Nat × X) := σ.filter fun p => !(Nat.beq p.1 d)
section
variable [Tx]
inductive OR (P : Program) (G : Nat) (n : Nz) (ops : Array Oper) : List (Nat × X) → List Oper → List R → Prop
 |nil {σ : List (Nat × X)} : OR P G n ops σ [] []
 |drop {σ : List (Nat × X)} {o : Oper} {l : List Oper} {rs : List R} {d : Nat} {x : Operand} {x' : X} (hop : mvX o.op = some x) (hg : o.guard = none) (hd : o.dst = some d) (hz : d ∈ n.Z) (hx : XR G x x') (hlt : d < n.n) (h : OR P G n ops ((d,subX σ x') :: killN d σ) l rs) : OR P G n ops σ (o :: l) rs
 |keep {σ : List (Nat × X)} {o : Oper} {l : List Oper} {r : R} {rs : List R} (hr : RR P G n ops o r) (hgd : ∀ t w,r.guard = some (t,w) → sfind σ t.n = none) (h : OR P G n ops (killO r.dst σ) l rs) : OR P G n ops σ (o :: l) (⟨r.dst,r.guard,subI σ r.i,[]⟩ :: rs)
def SInv (σ : List (Nat × X)) (E : En) (L : Fr) (a : Act) : Prop := ∀ d x,sfind σ d = some x → ∀ v,evX L x = some v → v.v E (a.tmps.getD d undef)
end
section
variable {P : Program} {G : Nat} {n : Nz} {E : En} {H H' : AH} {w0 : W0} {w : World} {a : Act} {L L' : Fr} {run : Run} {σ : List (Nat × X)}
section
variable [Tx]
def SAll (σ : List (Nat × X)) (E : En) (L : Fr) (a : Act) : Prop := ∀ p ∈ σ,∀ v,evX L p.2 = some v → v.v E (a.tmps.getD p.1 undef)
theorem SAll.inv (h : SAll σ E L a) : SInv σ E L a := by
 intro d x hs v hv
 have : ∀ {σ : List (Nat × X)},sfind σ d = some x → ∃ p ∈ σ,p.1 = d ∧ p.2 = x := fun {σ} hs => by
  induction σ with
  |nil => cases hs
  |cons p σ ih =>
   replace hs : cond (Nat.beq p.1 d) (some p.2) (sfind σ d) = some x := hs
   cases hb : Nat.beq p.1 d with
   |true => rw [hb] at hs; injection hs with hs; exact ⟨p,List.mem_cons_self ..,Nat.eq_of_beq_eq_true hb,hs⟩
   |false =>
    rw [hb] at hs
    obtain ⟨q,h1,h2⟩ := ih hs
    exact ⟨q,List.mem_cons_of_mem _ h1,h2⟩
 obtain ⟨p,h1,rfl,rfl⟩ := this hs
 exact h p h1 v hv
def subFr (σ : List (Nat × X)) (L : Fr) : List Nat → Fr
 |[] => Fr.nil
 |t :: S => match evX L (subX σ (.t (Slt.of t))) with
  |some v => putS (subFr σ L S) (Slt.of t) v
  |none => subFr σ L S
end
theorem subFr_mem {s : Slt} : ∀ {S : List Nat},s.n ∈ S → look s (subFr σ L S) = evX L (subX σ (.t s))
 |[],h => by cases h
 |t :: S,h => by
  unfold subFr
  by_cases hst : Slt.of t = s
  ·subst hst
   cases hs : evX L (subX σ (.t (Slt.of t))) with
   |some v =>
    show look (Slt.of t) (putS (subFr σ L S) (Slt.of t) v) = _
    rw [look_same]
   |none =>
    show look (Slt.of t) (subFr σ L S) = none
    have : ∀ S,look (Slt.of t) (subFr σ L S) = none := fun S => by
     induction S with
     |nil => exact look_nil _
     |cons r S ih =>
      unfold subFr
      cases hr : evX L (subX σ (.t (Slt.of r))) with
      |none => exact ih
      |some v =>
       show look (Slt.of t) (putS (subFr σ L S) (Slt.of r) v) = none
       rw [look_other _ (fun e => by rw [e,hr] at hs; cases hs)]; exact ih
    exact this S
  ·have hm : s.n ∈ S := (List.mem_cons.1 h).resolve_left fun e => hst (by rw [← e]; exact (Slt.of_n s).1)
   cases hs : evX L (subX σ (.t (Slt.of t))) with
   |none => exact subFr_mem hm
   |some v =>
    show look s (putS (subFr σ L S) (Slt.of t) v) = _
    rw [look_other _ (fun e => hst e.symm)]; exact subFr_mem hm
section
variable [Tx]
theorem sub_v (hF : FR E L a) (hS : SInv σ E L a) {s : Slt} {v : AV} (h : evX L (subX σ (.t s)) = some v) : v.v E (a.tmps.getD s.n undef) := by
 replace h : evX L (match sfind σ s.n with | some x => x | none => X.t s) = some v := h
 cases hs : sfind σ s.n with
 |none =>
  rw [hs] at h
  exact hF s.n v ((lookN_n s L).trans h)
 |some x =>
  rw [hs] at h
  exact hS s.n x hs v h
theorem subFr_fr (hF : FR E L a) (hS : SInv σ E L a) : ∀ S : List Nat,FR E (subFr σ L S) a
 |[] => fun t v hv => by
  have hv : lookN t Fr.nil = some v := hv
  rw [lookN_nil] at hv; cases hv
 |t :: S => by
  unfold subFr
  cases hs : evX L (subX σ (.t (Slt.of t))) with
  |none => exact subFr_fr hF hS S
  |some v =>
   intro t' v' hv
   replace hv : lookN t' (putS (subFr σ L S) (Slt.of t) v) = some v' := hv
   rw [lookN_put] at hv
   by_cases ht : t' = (Slt.of t).n
   ·rw [if_pos ht] at hv; injection hv with hv; subst hv; rw [ht]; exact sub_v hF hS hs
   ·rw [if_neg ht] at hv; exact subFr_fr hF hS S t' v' hv
theorem one_v (hG : GE G E) (hF : FR E L a) (hS : SInv σ E L a) {x : Operand} {x' : X} (hx : XR G x x') {v : AV} (h : evX L (subX σ x') = some v) : v.v E (a.eval x) := by
 have hfr := subFr_fr hF hS (xT x')
 refine hx hG hfr ?_
 rw [← h]
 exact evX_s fun s hs => subFr_mem hs
end
theorem put_ne {d t : Nat} {u : Value} (h : t ≠ d) : (a.put (some d) u).tmps.getD t undef = a.tmps.getD t undef := getD_setIfInBounds_ne _ _ _ _ _ fun e => h e.symm
section
variable [Tx]
theorem oregion_sound (hrun : RunOk P G run) {ops : Array Oper} {Q : Exit → Act → World → Prop} {ex : Ex} : ∀ {l : List Oper} {rs : List R} {σ : List (Nat × X)},OR P G n ops σ l rs → ∀ {E : En} {H : AH} {w : World} {a : Act} {L : Fr},SAll σ E L a → GE G E → HR E H w0 w → FrR E L n a → evR rs run L H = some (ex,L',H') → Keeps E H H' ∧ (Out G E H w0 n Q ex L' H' → wpList P ops Q l a w)
 |[],_,σ,.nil => by
  rename_i E H w a L
  intro _ hG hH hF h
  injection h with h; injection h with h1 h; injection h with h2 h3; subst h1; subst h2; subst h3
  exact ⟨Keeps.refl _ _,fun hQ => sq_end (hQ E a w (En.le_refl _) (fun _ _ h => .inl h) hH hF)⟩
 |o :: l,rs,σ,.drop (d := d) (x := x) (x' := x') hop hg hd hz hx hlt ht => by
  rename_i E H w a L
  intro hS hG hH hF h
  have hrunx : (execOp a.eval o).run P w = .ok (.value (a.eval x)) w := by
   obtain ⟨dst,op,ty,pos,after,guard⟩ := o
   have hop : mvX op = some x := hop
   unfold mvX at hop
   split at hop
   ·injection hop with hop; subst hop; exact r_move rfl
   ·injection hop with hop; subst hop; exact r_assign rfl
   ·cases hop
  have hw : Region.wanted o (yielded ops a.tmps) = true := by simp [Region.wanted,hg]
  have hzd := hF.nz d hz
  have hne : ∀ {t v},lookN t L = some v → t ≠ d := fun hv e => by subst e; rw [hzd] at hv; cases hv
  have hF' : FrR E L n (a.put o.dst (a.eval x)) := by
   rw [hd]
   exact ⟨by simp [Act.put,hF.size],hF.defs,fun t v hv => by rw [put_ne (hne hv)]; exact hF.fr t v hv,hF.nz⟩
  have hS' : SAll ((d,subX σ x') :: killN d σ) E L (a.put o.dst (a.eval x)) := by
   intro p hp v hv
   rw [hd]
   rcases List.mem_cons.1 hp with rfl | hp
   ·show v.v E ((a.tmps.setIfInBounds d (a.eval x)).getD d undef)
    rw [getD_setIfInBounds_self _ _ _ _ (by rw [hF.size]; exact hlt)]
    exact one_v hG hF.fr hS.inv hx hv
   ·obtain ⟨h1,h2⟩ := List.mem_filter.1 hp
    have h2 : p.1 ≠ d := fun e => by rw [e,show Nat.beq d d = true from Nat.beq_refl d] at h2; cases h2
    rw [put_ne h2]; exact hS p h1 v hv
  obtain ⟨k1,k2⟩ := oregion_sound hrun (Q := Q) ht hS' hG hH hF' h
  refine ⟨k1,fun hQ => sq ?_⟩
  unfold opK
  rw [if_pos hw]
  simp only [Oper.wp,hrunx,Oper.upon]
  exact k2 hQ
 |o :: l,_ :: rs,σ,.keep (r := r) hr hgd ht => by
  rename_i E H w a L
  intro hS hG hH hF h
  have hfr := subFr_fr hF.fr hS.inv (slotsR r)
  have hweak : RR P G ⟨n.n,[]⟩ ops o r := ⟨hr.dst,hr.lt,fun _ _ h => (nomatch h),hr.guard,hr.op⟩
  have hFo : FrR E (subFr σ L (slotsR r)) ⟨n.n,[]⟩ a := ⟨hF.size,hF.defs,hfr,fun _ h => (nomatch h)⟩
  have hpas : passed (subFr σ L (slotsR r)) r.guard = passed L r.guard := by
   unfold passed
   cases hg : r.guard with
   |none => rfl
   |some q =>
    have h1 := subFr_mem (σ := σ) (L := L) (s := q.1) (S := slotsR r) (by simp [slotsR,hg])
    have h2 : subX σ (.t q.1) = .t q.1 := by
     show (match sfind σ q.1.n with | some x => x | none => X.t q.1) = _
     rw [hgd q.1 q.2 hg]
    rw [h2] at h1
    have h1 : look q.1 (subFr σ L (slotsR r)) = look q.1 L := h1
    simp only [h1]
  have heval : evI r.i run (subFr σ L (slotsR r)) H = evI (subI σ r.i) run L H := evI_sub fun s hs => subFr_mem (List.mem_append_right _ hs)
  -- what is told behind it
  have hSk : ∀ {E1 : En} {v : AV} {u : Value},E.le E1 → SAll (killO r.dst σ) E1 (putF L r.dst v) (a.put o.dst u) := fun {E1 v u} hle p hp v' hv' => by
   rw [hr.dst]
   cases hd : r.dst with
   |none =>
    rw [hd] at hp hv'
    exact AV.mono hle (hS p hp v' hv')
   |some d =>
    rw [hd] at hp hv'
    obtain ⟨h1,h2⟩ := List.mem_filter.1 hp
    rw [Bool.and_eq_true] at h2
    obtain ⟨h2,h3⟩ := h2
    have h2 : p.1 ≠ d.n := fun e => by rw [e,show Nat.beq d.n d.n = true from Nat.beq_refl _] at h2; cases h2
    show v'.v E1 ((a.put (some d.n) u).tmps.getD p.1 undef)
    rw [put_ne h2]
    refine AV.mono hle (hS p h1 v' ?_)
    rw [← hv']
    cases hx : p.2 with
    |c _ => rfl
    |t s =>
     rw [hx] at h3
     show look s L = look s (putS L d v)
     rw [look_other _ (fun e => by
      subst e
      have h3 : (!(Nat.beq s.n s.n)) = true := h3
      rw [show Nat.beq s.n s.n = true from Nat.beq_refl _] at h3; cases h3)]
  replace h : (match passed L r.guard with | some true => evR rs run (putF L r.dst .u) H | some false => (match evI (subI σ r.i) run L H with | some (v,H') => evR rs run (putF L r.dst v) H' | none => none) | none => none) = some (ex,L',H') := h
  split at h
  ·rename_i hp
   have hw := passed_eq hFo hweak (hpas.trans hp)
   have hF' := hF.put (d := r.dst) (v := .u) (u := undef) (fun d hd => hr.lt d.n (by rw [hr.dst,hd]; rfl)) rfl hr.nz
   obtain ⟨h1,h2⟩ := oregion_sound hrun (Q := Q) ht (by have := hSk (E1 := E) (v := .u) (u := undef) (En.le_refl _); exact this) hG hH (by rw [hr.dst]; exact hF') h
   refine ⟨h1,fun hQ => sq ?_⟩
   unfold opK
   rw [if_neg (by rw [hw]; simp)]
   exact h2 hQ
  ·rename_i hp
   have hw := passed_eq hFo hweak (hpas.trans hp)
   split at h
   ·rename_i v H1 he
    obtain ⟨k1,k2⟩ := hr.op hrun hG hH hfr (heval.trans he)
    have next : ∀ {E1 : En} {u : Value} {w1 : World},E.le E1 → (∀ b p,E1 b = some p → E b = some p ∨ H.nx ≤ b) → HR E1 H1 w0 w1 → v.v E1 u → Keeps E1 H1 H' ∧ (Out G E H w0 n Q ex L' H' → wpList P ops Q l (a.put o.dst u) w1) := fun {E1 u w1} g1 g2 g3 g4 => by
     have hF' := (hF.mono g1).put (d := r.dst) (v := v) (u := u) (fun d hd => hr.lt d.n (by rw [hr.dst,hd]; rfl)) g4 hr.nz
     obtain ⟨m1,m2⟩ := oregion_sound hrun (Q := Q) ht (hSk g1) (hG.mono g1) g3 (by rw [hr.dst]; exact hF') h
     refine ⟨m1,fun hQ => ?_⟩
     refine m2 fun E' a' w' q1 q2 q3 q4 => hQ E' a' w' (En.le_trans g1 q1) (fun b p hp => ?_) q3 q4
     rcases q2 b p hp with q | q
     ·exact g2 b p q
     ·exact .inr (Nat.le_trans k1.1 q)
    have hop : ∀ {K : Act → World → Prop},o.wp P a w K Q → opK P ops Q o K a w := fun hk => by
     unfold opK
     rw [if_pos (by rw [hw]; rfl)]; exact hk
    rcases k2 with ⟨u,w',e1,E1,g1,g2,g3,g4⟩ | ⟨w',e1,_,E1,g1,g2,g3,g4⟩ | ⟨f,args,e1,e2⟩
    ·obtain ⟨m1,m2⟩ := next g1 g2 g3 g4
     refine ⟨k1.trans m1 g2,fun hQ => sq (hop ?_)⟩
     simp only [Oper.wp,e1,Oper.upon]
     exact m2 hQ
    ·obtain ⟨m1,m2⟩ := next g1 g2 g3 g4
     refine ⟨k1.trans m1 g2,fun hQ => sq (hop ?_)⟩
     simp only [Oper.wp,e1,Oper.upon]
     exact m2 hQ
    ·obtain ⟨u0,w1,E1,g1,g2,g3,g4⟩ := Calls.some_end e2
     refine ⟨k1.trans (next g1 g2 g3 g4).1 g2,fun hQ => sq (hop (upon_call e1 e2 fun u w' ⟨E2,q1,q2,q3,q4⟩ => (next q1 q2 q3 q4).2 hQ))⟩
   ·cases h
  ·cases h
theorem oregion_ok {id : Nat} {l : List Oper} {rs : List R} (h : OR P G n l.toArray [] l rs) (hrun : RunOk P G run) : CodeOk P G n run (.region id l.toArray false) (.reg rs) := by
 intro E H H' w0 w a L L' ex Q hG hH hF he
 obtain ⟨h1,h2⟩ := oregion_sound hrun (Q := Q) h (fun p hp => by cases hp) hG hH hF he
 exact ⟨h1,fun hQ => wp_region_lit (h2 hQ)⟩
end
end
end
end Ev
end
section
namespace Ev
set_option autoImplicit false
noncomputable section
section
variable (P : Program) (G : Nat)
def cLen (t : TypeId) (x : X) : Option I := match P.underlying t with
 |some (.slice _) => some (.len true x)
 |some .string => some (.len false x)
 |_ => none
def cApp (t t' : TypeId) (x y : X) : Option I := match P.underlying t with
 |some (.slice e) => cond (Nat.beq t' t) (match zcE P e with
  |some (_,n,b) => cond (Nat.ble b 1048576 && Nat.blt 0 n) (some (.app e n false x y)) none
  |none => none) none
 |_ => none
def cCp (t t' : TypeId) (x y : X) : Option I := match P.underlying t with
 |some (.slice e) => cond (Nat.beq t' t) (match tiE P e with
  |some (_,n,_) => some (.cp n false x y)
  |none => none) none
 |_ => none
def cClr (t : TypeId) (x : X) : Option I := match P.underlying t with
 |some (.slice e) => (match zcE P e with | some (l,_,_) => some (.clr l x) | none => none)
 |_ => none
def cBi (b : Builtin) (xs : List Operand) (ts : List TypeId) : Option I := match xs with
 |[x] => (match ts with
  |[t] => (cX G x).bind fun x' => (match b with
   |.len => cLen P t x'
   |.unsafeSliceData => some (.usd x')
   |.clear => cClr P t x'
   |_ => none)
  |_ => none)
 |[x,y] => (match ts with
  |[t,u] => (cX G x).bind fun x' => (cX G y).bind fun y' => (match b with
   |.append => cApp P t u x' y'
   |.copy => cCp P t u x' y'
   |.max => some (.mx x' y')
   |.min => some (.mn x' y')
   |.unsafeString => cUstr t x' y'
   |_ => none)
  |_ => none)
 |_ => none
def cCall (c : Call) : Option I := match c.callee with
 |.value (.func f) => (cXs G c.args.toList).map (.call f)
 |.value x => (cX G x).bind fun x' => (cXs G c.args.toList).map (.callv x')
 |.builtin b => cBi P G b c.args.toList c.argTypes.toList
 |.invoke _ _ => none
end
section
variable {P : Program} {G : Nat} {dst : Option Nat} {ty : TypeId} {pos : String} {after : Array Edge} {guard : Option (Nat × Bool)}
section
variable [Tx]
theorem cLen_ok {t : TypeId} {x : Operand} {x' : X} {i : I} (hx : XR G x x') (h : cLen P t x' = some i) : OK P G ⟨dst,.call { callee := .builtin .len,args := #[x],argTypes := #[t] },ty,pos,after,guard⟩ i := by
 unfold cLen at h
 split at h
 ·rename_i e hu
  injection h with h; subst h
  exact .ofV (V_len (sl := true) ⟨e,hu⟩ hx) (by simp [kindI])
 ·rename_i hu
  injection h with h; subst h
  exact .ofV (V_len (sl := false) hu hx) (by simp [kindI])
 ·cases h
theorem cApp_ok {t t' : TypeId} {x y : Operand} {x' y' : X} {i : I} (hx : XR G x x') (hy : XR G y y') (h : cApp P t t' x' y' = some i) : OK P G ⟨dst,.call { callee := .builtin .append,args := #[x,y],argTypes := #[t,t'] },ty,pos,after,guard⟩ i := by
 unfold cApp at h
 split at h
 ·rename_i e hu
  cases hb : Nat.beq t' t with
  |false => rw [hb] at h; cases h
  |true =>
   rw [hb] at h
   have e1 : t' = t := Nat.eq_of_beq_eq_true hb
   subst e1
   replace h : (match zcE P e with | some (_,n,b) => cond (Nat.ble b 1048576 && Nat.blt 0 n) (some (I.app e n false x' y')) none | none => none) = some i := h
   split at h
   ·rename_i l n b h1
    obtain ⟨hb,rfl⟩ := cond_some h
    simp only [Bool.and_eq_true,Nat.ble_eq,Nat.blt_eq] at hb
    obtain ⟨z,z1,z2,z3,z4⟩ := zcE_ok h1
    exact .ofS (S_app hu z1 hb.1 z4 hb.2 hx hy) rfl
   ·cases h
 ·cases h
theorem cCp_ok {t t' : TypeId} {x y : Operand} {x' y' : X} {i : I} (hx : XR G x x') (hy : XR G y y') (h : cCp P t t' x' y' = some i) : OK P G ⟨dst,.call { callee := .builtin .copy,args := #[x,y],argTypes := #[t,t'] },ty,pos,after,guard⟩ i := by
 unfold cCp at h
 split at h
 ·rename_i e hu
  cases hb : Nat.beq t' t with
  |false => rw [hb] at h; cases h
  |true =>
   rw [hb] at h
   have e1 : t' = t := Nat.eq_of_beq_eq_true hb
   subst e1
   replace h : (match tiE P e with | some (_,n,_) => some (I.cp n false x' y') | none => none) = some i := h
   split at h
   ·rename_i h1
    injection h with h; subst h
    exact .ofS (S_cp hu (tiE_ok h1) hx hy) rfl
   ·cases h
 ·cases h
theorem cClr_ok {t : TypeId} {x : Operand} {x' : X} {i : I} (hx : XR G x x') (h : cClr P t x' = some i) : OK P G ⟨dst,.call { callee := .builtin .clear,args := #[x],argTypes := #[t] },ty,pos,after,guard⟩ i := by
 unfold cClr at h
 split at h
 ·rename_i e hu
  split at h
  ·rename_i h1
   injection h with h; subst h
   obtain ⟨z,z1,z2,z3,z4⟩ := zcE_ok h1
   exact .ofS (S_clr hu z1 z2 hx rfl) rfl
  ·cases h
 ·cases h
theorem cBi_ok {b : Builtin} {xs : List Operand} {ts : List TypeId} {i : I} (h : cBi P G b xs ts = some i) : OK P G ⟨dst,.call { callee := .builtin b,args := xs.toArray,argTypes := ts.toArray },ty,pos,after,guard⟩ i := by
 unfold cBi at h
 split at h
 ·split at h
  ·obtain ⟨x',hx,h⟩ := Option.bind_eq_some_iff.1 h
   have hx : XR G _ x' := cX_ok hx
   split at h
   ·exact cLen_ok hx h
   ·injection h with h; subst h; exact .ofV (V_usd hx) (by simp [kindI])
   ·exact cClr_ok hx h
   ·cases h
  ·cases h
 ·split at h
  ·obtain ⟨x',hx,h⟩ := Option.bind_eq_some_iff.1 h
   obtain ⟨y',hy,h⟩ := Option.bind_eq_some_iff.1 h
   have hx : XR G _ x' := cX_ok hx
   have hy : XR G _ y' := cX_ok hy
   split at h
   ·exact cApp_ok hx hy h
   ·exact cCp_ok hx hy h
   ·injection h with h; subst h; exact .ofV (V_max hx hy) (by simp [kindI])
   ·injection h with h; subst h; exact .ofV (V_min hx hy) (by simp [kindI])
   ·exact cUstr_ok hx hy h
   ·cases h
  ·cases h
 ·cases h
theorem cCall_ok {c : Call} {i : I} (h : cCall P G c = some i) : OK P G ⟨dst,.call c,ty,pos,after,guard⟩ i := by
 obtain ⟨callee,⟨xs⟩,⟨ts⟩⟩ := c
 unfold cCall at h
 split at h
 ·rename_i f hc
  have hc : callee = .value (.func f) := hc
  subst hc
  obtain ⟨ys,hy,rfl⟩ := Option.map_eq_some_iff.1 h
  exact .ofS (S_call (cXs_ok hy)) rfl
 ·rename_i x _ hc
  have hc : callee = .value x := hc
  subst hc
  obtain ⟨x',hx,h⟩ := Option.bind_eq_some_iff.1 h
  obtain ⟨ys,hy,rfl⟩ := Option.map_eq_some_iff.1 h
  exact .ofS (S_callv (cX_ok hx) (cXs_ok hy)) rfl
 ·rename_i b hc
  have hc : callee = .builtin b := hc
  subst hc
  exact cBi_ok h
 ·cases h
end
end
def cOp (P : Program) (G : Nat) (op : Op) : Option I := match op with
 |.move x => (cX G x).map .mv
 |.assign x => (cX G x).map .mv
 |.nilCheck x => (cX G x).map .nc
 |.pick c x y => (cX G c).bind fun c' => (cX G x).bind fun x' => (cX G y).map fun y' => .pk c' x' y'
 |.binOp o t x y _ => (cX G x).bind fun x' => (cX G y).bind fun y' => cBin P o t x' y'
 |.unOp o _ x => (cX G x).bind fun x' => cUn o x'
 |.convert s d x => (cX G x).bind fun x' => cConv P s d x'
 |.alloc t => (match tiE P t with | some (z,_,_) => (cV z).map fun y => .new t (.c y) | none => none)
 |.box t x => (cX G x).map (.new t)
 |.build t ps => cBld P G t ps.toList
 |.buildSlice t n ps => cBsl P G t n ps.toList
 |.load t x => (cX G x).bind fun x' => cLoad P t x'
 |.store t x y => (cX G x).bind fun x' => (cX G y).bind fun y' => (match tiE P t with | some (_,n,_) => some (.st n x' y') | none => none)
 |.fieldAddr s x i => (cX G x).bind fun x' => cFa P s i x'
 |.field s x i => (cX G x).bind fun x' => cFd P s i x'
 |.indexAddr t x y => (cX G x).bind fun x' => (cX G y).bind fun y' => cIa P t x' y'
 |.index t x y => (cX G x).bind fun x' => (cX G y).bind fun y' => cIx P t x' y'
 |.extract x j => (cX G x).map (.ext j)
 |.slice t x lo hi mx => (cX G x).bind fun x' => (cXo G lo).bind fun lo' => (cXo G hi).bind fun hi' => (cXo G mx).bind fun mx' => cSl P t x' lo' hi' mx mx'
 |.makeSlice t x y => (cX G x).bind fun x' => (cX G y).bind fun y' => cMks P t x' y'
 |.makeFunc f xs ys => (match f,xs.toList with
  |.func f,[] => (cXs G ys.toList).map (.mkf f)
  |_,_ => none)
 |.makeMap _ none => some .mkm
 |.lookup t x y ok => (cX G x).bind fun x' => (cX G y).bind fun y' => cLkp P t ok x' y'
 |.mapEntry t x y => (cX G x).bind fun x' => (cX G y).bind fun y' => cMen P t x' y'
 |.entryStore t x y z => (cX G x).bind fun x' => (cX G y).bind fun y' => (cX G z).bind fun z' => cEst t x' y' z'
 |.call c => cCall P G c
 |_ => none
section
variable [Tx]
theorem cOp_ok {P : Program} {G : Nat} {op : Op} {i : I} (h : cOp P G op = some i) (dst : Option Nat) (ty : TypeId) (pos : String) (after : Array Edge) (guard : Option (Nat × Bool)) : OK P G ⟨dst,op,ty,pos,after,guard⟩ i := by
 unfold cOp at h
 split at h
 ·obtain ⟨x',hx,rfl⟩ := Option.map_eq_some_iff.1 h
  exact .ofV (V_move (cX_ok hx)) (by simp [kindI])
 ·obtain ⟨x',hx,rfl⟩ := Option.map_eq_some_iff.1 h
  exact .ofV (V_assign (cX_ok hx)) (by simp [kindI])
 ·obtain ⟨x',hx,rfl⟩ := Option.map_eq_some_iff.1 h
  exact .ofV (V_nilCheck (cX_ok hx)) (by simp [kindI])
 ·obtain ⟨c',hc,h⟩ := Option.bind_eq_some_iff.1 h
  obtain ⟨x',hx,h⟩ := Option.bind_eq_some_iff.1 h
  obtain ⟨y',hy,rfl⟩ := Option.map_eq_some_iff.1 h
  exact .ofV (V_pick (cX_ok hc) (cX_ok hx) (cX_ok hy)) (by simp [kindI])
 ·obtain ⟨x',hx,h⟩ := Option.bind_eq_some_iff.1 h
  obtain ⟨y',hy,h⟩ := Option.bind_eq_some_iff.1 h
  exact cBin_ok (cX_ok hx) (cX_ok hy) h
 ·obtain ⟨x',hx,h⟩ := Option.bind_eq_some_iff.1 h
  exact cUn_ok (cX_ok hx) h
 ·obtain ⟨x',hx,h⟩ := Option.bind_eq_some_iff.1 h
  exact cConv_ok (cX_ok hx) h
 ·split at h
  ·rename_i h1
   obtain ⟨y,hy,rfl⟩ := Option.map_eq_some_iff.1 h
   exact .ofA (A_alloc (tiE_ok h1) (cV_v hy)) (by simp [kindI])
  ·cases h
 ·obtain ⟨x',hx,rfl⟩ := Option.map_eq_some_iff.1 h
  exact .ofA (A_box (cX_ok hx)) (by simp [kindI])
 ·rename_i t ps
  obtain ⟨ps⟩ := ps
  exact cBld_ok h
 ·rename_i t n ps
  obtain ⟨ps⟩ := ps
  exact cBsl_ok h
 ·obtain ⟨x',hx,h⟩ := Option.bind_eq_some_iff.1 h
  exact cLoad_ok (cX_ok hx) h
 ·obtain ⟨x',hx,h⟩ := Option.bind_eq_some_iff.1 h
  obtain ⟨y',hy,h⟩ := Option.bind_eq_some_iff.1 h
  split at h
  ·rename_i h1
   injection h with h; subst h
   exact .ofS (S_store (tiE_ok h1) (cX_ok hx) (cX_ok hy)) rfl
  ·cases h
 ·obtain ⟨x',hx,h⟩ := Option.bind_eq_some_iff.1 h
  exact cFa_ok (cX_ok hx) h
 ·obtain ⟨x',hx,h⟩ := Option.bind_eq_some_iff.1 h
  exact cFd_ok (cX_ok hx) h
 ·obtain ⟨x',hx,h⟩ := Option.bind_eq_some_iff.1 h
  obtain ⟨y',hy,h⟩ := Option.bind_eq_some_iff.1 h
  exact cIa_ok (cX_ok hx) (cX_ok hy) h
 ·obtain ⟨x',hx,h⟩ := Option.bind_eq_some_iff.1 h
  obtain ⟨y',hy,h⟩ := Option.bind_eq_some_iff.1 h
  exact cIx_ok (cX_ok hx) (cX_ok hy) h
 ·obtain ⟨x',hx,rfl⟩ := Option.map_eq_some_iff.1 h
  exact .ofV (V_extract (cX_ok hx)) (by simp [kindI])
 ·obtain ⟨x',hx,h⟩ := Option.bind_eq_some_iff.1 h
  obtain ⟨l',hl,h⟩ := Option.bind_eq_some_iff.1 h
  obtain ⟨h',hh,h⟩ := Option.bind_eq_some_iff.1 h
  obtain ⟨m',hm,h⟩ := Option.bind_eq_some_iff.1 h
  exact cSl_ok (cX_ok hx) (cXo_ok hl) (cXo_ok hh) (cXo_ok hm) h
 ·obtain ⟨x',hx,h⟩ := Option.bind_eq_some_iff.1 h
  obtain ⟨y',hy,h⟩ := Option.bind_eq_some_iff.1 h
  exact cMks_ok (cX_ok hx) (cX_ok hy) h
 ·rename_i f xs ys
  obtain ⟨xs⟩ := xs
  obtain ⟨ys⟩ := ys
  split at h
  ·rename_i f he
   have he : xs = [] := he
   subst he
   obtain ⟨zs,hz,rfl⟩ := Option.map_eq_some_iff.1 h
   exact .ofV (V_mkf (cXs_ok hz)) (by simp [kindI])
  ·cases h
 ·injection h with h; subst h
  exact .ofS (A_mkm fun w => by simp [Instr.makeMap,Result.andThen]) rfl
 ·obtain ⟨x',hx,h⟩ := Option.bind_eq_some_iff.1 h
  obtain ⟨y',hy,h⟩ := Option.bind_eq_some_iff.1 h
  exact cLkp_ok (cX_ok hx) (cX_ok hy) h
 ·obtain ⟨x',hx,h⟩ := Option.bind_eq_some_iff.1 h
  obtain ⟨y',hy,h⟩ := Option.bind_eq_some_iff.1 h
  exact cMen_ok (cX_ok hx) (cX_ok hy) h
 ·obtain ⟨x',hx,h⟩ := Option.bind_eq_some_iff.1 h
  obtain ⟨y',hy,h⟩ := Option.bind_eq_some_iff.1 h
  obtain ⟨z',hz,h⟩ := Option.bind_eq_some_iff.1 h
  exact cEst_ok (cX_ok hx) (cX_ok hy) (cX_ok hz) h
 ·exact cCall_ok h
 ·cases h
def badC : C := .reg [⟨none,none,.bad,[]⟩]
def cG (ops : Array Oper) (g : Option (Nat × Bool)) : Option (Option (Slt × Bool)) := match g with
 |none => some none
 |some (j,want) => ((ops[j]?).bind (·.dst)).bind fun t => cond (Nat.blt t 256) (some (some (Slt.of t,want))) none
def dstB (n : Nz) (d : Option Nat) : Bool := match d with
 |none => true
 |some d => Nat.blt d n.n && Nat.blt d 256 && !(n.Z.contains d)
def cR (P : Program) (G : Nat) (n : Nz) (ops : Array Oper) (o : Oper) : Option R := match cG ops o.guard with
 |some g => cond (dstB n o.dst) (some ⟨o.dst.map Slt.of,g,(cOp P G o.op).getD .bad,[]⟩) none
 |none => none
def mvOf (n : Nz) (o : Oper) : Option (Nat × Operand) := match o.guard,o.dst with
 |none,some d => cond (n.Z.contains d && Nat.blt d n.n) ((mvX o.op).map fun x => (d,x)) none
 |_,_ => none
def gdB (σ : List (Nat × X)) (g : Option (Slt × Bool)) : Bool := match g with
 |none => true
 |some (t,_) => match sfind σ t.n with
  |none => true
  |some _ => false
def oRs (P : Program) (G : Nat) (n : Nz) (ops : Array Oper) (l : List Oper) : List (Nat × X) → Option (List R) := List.rec (fun _ => some []) (fun o _ ih σ => match mvOf n o with
 |some (d,x) => (match cX G x with
  |some x' => ih ((d,subX σ x') :: killN d σ)
  |none => none)
 |none => (match cR P G n ops o with
  |some r => cond (gdB σ r.guard) (match ih (killO r.dst σ) with
   |some rs => some (⟨r.dst,r.guard,subI σ r.i,[]⟩ :: rs)
   |none => none) none
  |none => none)) l
def cRs (P : Program) (G : Nat) (n : Nz) (ops : Array Oper) (l : List Oper) : Option (List R) := List.rec (some []) (fun o _ ih => match cR P G n ops o,ih with | some r,some rs => some (r :: rs) | _,_ => none) l
def cReg (P : Program) (G : Nat) (n : Nz) (ops : Array Oper) (draw : Bool) : C := cond draw
 (match cRs P G n ops ops.toList with
  |some base => (match drawE ops base with | some rs => .dreg rs | none => badC)
  |none => badC)
 (match oRs P G n ops ops.toList [] with
  |some rs => .reg rs
  |none => badC)
def compC (P : Program) (G : Nat) (n : Nz) (c : Code) : C := Code.rec .skip (fun _ ops draw => cReg P G n ops draw) (fun _ _ ia ib => .seq ia ib)
 (fun x _ _ ia ib => match cX G x with | some x' => .cond x' ia ib | none => badC) (fun id _ ic => .blk id ic) (fun _ ic => .loop ic) (fun _ _ _ _ _ _ => badC) (fun id => .exit id) (fun _ ic => ic) (fun _ => .skip) (fun _ => badC) .ret (fun _ => badC) c
end
section
variable {P : Program} {G : Nat} {n : Nz}
section
variable [Tx]
theorem badC_ok (c : Code) : CR P G n c badC := .region fun _ => by
 intro E H H' w0 w a L L' ex Q hG hH hF he
 cases he
theorem cR_ok {ops : Array Oper} {o : Oper} {r : R} (h : cR P G n ops o = some r) : DR P G n ops o r := by
 unfold cR at h
 split at h
 ·rename_i g hg
  obtain ⟨hb,rfl⟩ := cond_some h
  obtain ⟨dst,op,ty,pos,after,guard⟩ := o
  have hok : OK P G ⟨dst,op,ty,pos,after,guard⟩ ((cOp P G op).getD .bad) := by
   cases hc : cOp P G op with
   |none => exact OK.bad _
   |some i => exact cOp_ok hc _ _ _ _ _
  have hlt : ∀ d,dst = some d → d < n.n ∧ d < 256 ∧ d ∉ n.Z := fun d hd => by
   subst hd
   have hb : (Nat.blt d n.n && Nat.blt d 256 && !(n.Z.contains d)) = true := hb
   simp only [Bool.and_eq_true,Nat.blt_eq,Bool.not_eq_true'] at hb
   exact ⟨hb.1.1,hb.1.2,fun h => by rw [List.contains_iff_mem.2 h] at hb; cases hb.2⟩
  refine ⟨⟨?_,fun d hd => (hlt d hd).1,fun d hd => ?_,?_,hok.s⟩,hok.v,hok.a⟩
  rotate_left
  ·obtain ⟨d',hd1,rfl⟩ := Option.map_eq_some_iff.1 (show dst.map Slt.of = some d from hd)
   rw [Slt.n_of (hlt d' hd1).2.1]; exact (hlt d' hd1).2.2
  rotate_left
  ·show dst = (dst.map Slt.of).map Slt.n
   cases dst with
   |none => rfl
   |some d => show some d = some (Slt.of d).n; rw [Slt.n_of (hlt d rfl).2.1]
  ·have hg : cG ops guard = some g := hg
   cases guard with
   |none => injection hg with hg; exact .inl ⟨rfl,hg.symm⟩
   |some jw =>
    obtain ⟨j,want⟩ := jw
    obtain ⟨t,ht,hg⟩ := Option.bind_eq_some_iff.1 hg
    obtain ⟨ht2,rfl⟩ := cond_some hg
    exact .inr ⟨j,Slt.of t,want,rfl,rfl,by rw [ht,Slt.n_of (by simpa [Nat.blt_eq] using ht2)]⟩
 ·cases h
theorem cRs_ok {ops : Array Oper} : ∀ {l : List Oper} {rs : List R},cRs P G n ops l = some rs → All2 (DR P G n ops) l rs
 |[],rs,h => by injection h with h; subst h; exact .nil
 |o :: l,rs,h => by
  replace h : (match cR P G n ops o,cRs P G n ops l with | some r,some rs => some (r :: rs) | _,_ => none) = some rs := h
  split at h
  ·rename_i r rs' h1 h2
   injection h with h; subst h
   exact .cons (cR_ok h1) (cRs_ok h2)
  ·cases h
theorem oRs_ok {ops : Array Oper} : ∀ {l : List Oper} {σ : List (Nat × X)} {rs : List R},oRs P G n ops l σ = some rs → OR P G n ops σ l rs
 |[],σ,rs,h => by injection h with h; subst h; exact .nil
 |o :: l,σ,rs,h => by
  replace h : (match mvOf n o with
   |some (d,x) => (match cX G x with
    |some x' => oRs P G n ops l ((d,subX σ x') :: killN d σ)
    |none => none)
   |none => (match cR P G n ops o with
    |some r => cond (gdB σ r.guard) (match oRs P G n ops l (killO r.dst σ) with
     |some rs => some (⟨r.dst,r.guard,subI σ r.i,[]⟩ :: rs)
     |none => none) none
    |none => none)) = some rs := h
  split at h
  ·rename_i d x hm
   split at h
   ·rename_i x' hx
    unfold mvOf at hm
    split at hm
    ·rename_i hg hd
     cases hb : (n.Z.contains _ && Nat.blt _ n.n) with
     |false => rw [hb] at hm; cases hm
     |true =>
      rw [hb] at hm
      obtain ⟨y,hy,e⟩ := Option.map_eq_some_iff.1 hm
      injection e with e1 e2
      subst e1; subst e2
      simp only [Bool.and_eq_true,Nat.blt_eq] at hb
      exact .drop hy hg hd (List.contains_iff_mem.1 hb.1) (cX_ok hx) hb.2 (oRs_ok h)
    ·cases hm
   ·cases h
  ·split at h
   ·rename_i r hr
    cases hb : gdB σ r.guard with
    |false => rw [hb] at h; cases h
    |true =>
     rw [hb] at h
     replace h : (match oRs P G n ops l (killO r.dst σ) with
      |some rs => some ((⟨r.dst,r.guard,subI σ r.i,[]⟩ : R) :: rs)
      |none => none) = some rs := h
     split at h
     ·rename_i rs' h1
      injection h with h; subst h
      refine .keep (cR_ok hr).rr (fun t w hg => ?_) (oRs_ok h1)
      unfold gdB at hb
      rw [hg] at hb
      simp only at hb
      split at hb
      ·assumption
      ·cases hb
     ·cases h
   ·cases h
theorem cReg_ok (hm : P.follows .mixedOrders = true) {id : Nat} {ops : Array Oper} {draw : Bool} : CR P G n (.region id ops draw) (cReg P G n ops draw) := by
 obtain ⟨l⟩ := ops
 cases draw with
 |false =>
  show CR P G n _ (match oRs P G n ⟨l⟩ l [] with | some rs => .reg rs | none => badC)
  cases hc : oRs P G n ⟨l⟩ l [] with
  |none => exact badC_ok _
  |some rs => exact .region fun hrun => oregion_ok (oRs_ok hc) hrun
 |true =>
  show CR P G n _ (match cRs P G n ⟨l⟩ l with
   |some base => (match drawE l.toArray base with | some rs => .dreg rs | none => badC)
   |none => badC)
  cases hc : cRs P G n ⟨l⟩ l with
  |none => exact badC_ok _
  |some base =>
   have hb : All2 (DR P G n l.toArray) l base := cRs_ok hc
   show CR P G n _ (match drawE l.toArray base with | some rs => .dreg rs | none => badC)
   cases hd : drawE l.toArray base with
   |none => exact badC_ok _
   |some rs =>
    refine .region fun hrun => draw_ok hm hrun (fun i o ho => ?_) hd
    have hlt : i < l.length := by
     have := (Array.getElem?_eq_some_iff.1 ho).1
     simpa using this
    have ho' : l[i]? = some o := by simpa using ho
    have hl := All2.length hb
    have hr : base[i]? = some (bOf base i) := by
     unfold bOf
     rw [List.getD_eq_getElem?_getD,List.getElem?_eq_getElem (by omega)]; rfl
    have key : ∀ {l : List Oper} {base : List R} {ops : Array Oper} (i : Nat) (o : Oper) (r : R),All2 (DR P G n ops) l base → l[i]? = some o → base[i]? = some r → DR P G n ops o r := fun {l base ops} i o r hb => by
     induction hb generalizing i with
     |nil => intro h; cases h
     |cons h t ih =>
      cases i with
      |zero => intro h1 h2; simp at h1 h2; subst h1; subst h2; exact h
      |succ i => intro h1 h2; exact ih i (by simpa using h1) (by simpa using h2)
    exact key i o _ hb ho' hr
theorem compC_ok (hm : P.follows .mixedOrders = true) : ∀ c : Code,CR P G n c (compC P G n c)
 |.skip => .skip
 |.region id ops draw => cReg_ok hm
 |.seq a b => .seq (compC_ok hm a) (compC_ok hm b)
 |.cond x a b => by
  show CR P G n _ (match cX G x with | some x' => .cond x' (compC P G n a) (compC P G n b) | none => badC)
  cases hx : cX G x with
  |none => exact badC_ok _
  |some x' => exact .cond (cX_ok hx) (compC_ok hm a) (compC_ok hm b)
 |.block id a => .block (compC_ok hm a)
 |.loop a => .loop (compC_ok hm a)
 |.rangeFunc _ _ _ _ => badC_ok _
 |.exit _ => .exit
 |.scope a => .scope (compC_ok hm a)
 |.label _ => .label
 |.goto _ => badC_ok _
 |.ret => .ret
 |.refuse _ => badC_ok _
end
end
def cRes (P : Program) : ResultVar → Option (Slt × Option (Nat × Bool))
 |.tmp t => cond (Nat.blt t 256) (some (Slt.of t,none)) none
 |.cell t T => cond (Nat.blt t 256) (match P.underlying T with
  |some d => cond (notAgg d) (some (Slt.of t,some (1,false))) (match tiE P T with | some (_,n,_) => some (Slt.of t,some (n,true)) | none => none)
  |none => none) none
def cRess (P : Program) (l : List ResultVar) : Option (List (Slt × Option (Nat × Bool))) := List.rec (some []) (fun r _ ih => match cRes P r,ih with | some x,some xs => some (x :: xs) | _,_ => none) l
def compF (P : Program) (G : Nat) (Z : List Nat) (fn : Func) : Option CF := match fn.body,cRess P fn.results.toList with
 |some c,some rs => some ⟨fn.ntmps,fn.params.size + fn.nfree,compC P G ⟨fn.ntmps,Z⟩ c,rs⟩
 |_,_ => none
section
variable {P : Program} {G : Nat}
theorem cRes_ok {r : ResultVar} {q : Slt × Option (Nat × Bool)} (h : cRes P r = some q) : ResR P r q := by
 unfold cRes at h
 split at h
 ·rename_i t
  obtain ⟨ht,rfl⟩ := cond_some h
  have e := Slt.n_of (show t < 256 by simpa [Nat.blt_eq] using ht)
  have := ResR.tmp (P := P) (t := Slt.of t)
  rw [e] at this; exact this
 ·rename_i t T
  cases ht : Nat.blt t 256 with
  |false => rw [ht] at h; cases h
  |true =>
   rw [ht] at h
   have e := Slt.n_of (show t < 256 by simpa [Nat.blt_eq] using ht)
   replace h : (match P.underlying T with
    |some d => cond (notAgg d) (some (Slt.of t,some (1,false))) (match tiE P T with | some (_,n,_) => some (Slt.of t,some (n,true)) | none => none)
    |none => none) = some q := h
   split at h
   ·rename_i d hd
    cases hb : notAgg d with
    |true =>
     rw [hb] at h; injection h with h; subst h
     have := ResR.cell1 (P := P) (t := Slt.of t) hd hb
     rw [e] at this; exact this
    |false =>
     rw [hb] at h
     replace h : (match tiE P T with | some (_,n,_) => some (Slt.of t,some (n,true)) | none => none) = some q := h
     split at h
     ·rename_i h1
      injection h with h; subst h
      have := ResR.cellN (P := P) (t := Slt.of t) hd hb (tiE_ok h1)
      rw [e] at this; exact this
     ·cases h
   ·cases h
theorem cRess_ok : ∀ {l : List ResultVar} {qs : List (Slt × Option (Nat × Bool))},cRess P l = some qs → All2 (ResR P) l qs
 |[],qs,h => by injection h with h; subst h; exact .nil
 |r :: l,qs,h => by
  replace h : (match cRes P r,cRess P l with | some x,some xs => some (x :: xs) | _,_ => none) = some qs := h
  split at h
  ·rename_i x xs h1 h2
   injection h with h; subst h
   exact .cons (cRes_ok h1) (cRess_ok h2)
  ·cases h
section
variable [Tx]
theorem compF_ok (hm : P.follows .mixedOrders = true) (hn : P.funcs.all (fun fn => !(fn.name == "runtime.NumGoroutine")) = true) {f : Nat} {fn : Func} {cf : CF} {Z : List Nat} (hf : P.funcs[f]? = some fn) (hz : (Nat.ble (fn.params.size + fn.nfree) 256 && Z.all fun t => Nat.ble (fn.params.size + fn.nfree) t) = true) (h : compF P G Z fn = some cf) : FnR P G f cf := by
 unfold compF at h
 split at h
 ·rename_i c rs hb hr
  injection h with h; subst h
  refine ⟨fn,c,fn.results.toList,hf,fun e => ?_,hb,rfl,by rw [Bool.and_eq_true] at hz; simpa using hz.1,⟨Z,fun t ht => by rw [Bool.and_eq_true] at hz; simpa using List.all_eq_true.1 hz.2 t ht,compC_ok hm c⟩,by rw [Array.toArray_toList],cRess_ok hr⟩
  rw [Array.all_eq_true_iff_forall_mem] at hn
  have := hn fn (Array.mem_of_getElem? hf)
  rw [e] at this
  simp at this
 ·cases h
inductive FT where
 |nil
 |node (n : Nat) (cf : CF) (l r : FT)
def FT.find (t : FT) (x : Nat) : Option CF := FT.rec none (fun n cf _ _ il ir => cond (Nat.beq x n) (some cf) (cond (Nat.blt x n) il ir)) t
inductive FT.Ok (Q : Nat → CF → Prop) : FT → Prop
 |nil : FT.Ok Q .nil
 |node {n : Nat} {cf : CF} {l r : FT} (h : Q n cf) (hl : FT.Ok Q l) (hr : FT.Ok Q r) : FT.Ok Q (.node n cf l r)
end
theorem FT.find_ok {Q : Nat → CF → Prop} {t : FT} (h : FT.Ok Q t) {x : Nat} {cf : CF} (hf : t.find x = some cf) : Q x cf := by
 induction h with
 |nil => cases hf
 |node h _ _ ihl ihr =>
  rename_i n cf' l r _ _
  replace hf : cond (Nat.beq x n) (some cf') (cond (Nat.blt x n) (l.find x) (r.find x)) = some cf := hf
  cases hb : Nat.beq x n with
  |true =>
   rw [hb] at hf
   injection hf with hf; subst hf
   rw [Nat.eq_of_beq_eq_true hb]; exact h
  |false =>
   rw [hb] at hf
   replace hf : cond (Nat.blt x n) (l.find x) (r.find x) = some cf := hf
   cases hc : Nat.blt x n with
   |true => rw [hc] at hf; exact ihl hf
   |false => rw [hc] at hf; exact ihr hf
end
end
end Ev
end
section
namespace Ev
set_option autoImplicit false
noncomputable section
def idxN (b : Nat) (l : List Nat) : Option Nat := List.rec none (fun x _ ih => cond (Nat.beq x b) (some 0) (match ih with | some k => some (Nat.succ k) | none => none)) l
theorem idxN_ok {b : Nat} : ∀ {l : List Nat} {k : Nat},idxN b l = some k → l[k]? = some b
 |[],k,h => by cases h
 |x :: l,k,h => by
  replace h : cond (Nat.beq x b) (some 0) (match idxN b l with | some k => some (Nat.succ k) | none => none) = some k := h
  cases hb : Nat.beq x b with
  |true =>
   rw [hb] at h; injection h with h; subst h
   rw [Nat.eq_of_beq_eq_true hb]; rfl
  |false =>
   rw [hb] at h
   replace h : (match idxN b l with | some k => some (Nat.succ k) | none => none) = some k := h
   split at h
   ·rename_i j hj
    injection h with h; subst h
    simpa using idxN_ok hj
   ·cases h
def renP (ns : List Nat) : List (Nat × Nat) → Option (List (Nat × Nat)) := fun l => List.rec (some []) (fun p _ ih => match idxN p.1 ns,ih with | some k,some r => some ((k,p.2) :: r) | _,_ => none) l
def renA (ns : List Nat) : AC → Option AC
 |.p (some (b,o)) => match idxN b ns with | some k => some (.p (some (k,o))) | none => none
 |.sl (some (b,o)) n c es => match idxN b ns with | some k => some (.sl (some (k,o)) n c es) | none => none
 |.m _ => none
 |.f id l => match renP ns l with | some l' => some (.f id l') | none => none
 |.b x => some (.b x)
 |.i k n => some (.i k n)
 |.s x => some (.s x)
 |.p none => some (.p none)
 |.sl none n c es => some (.sl none n c es)
 |.nf => some .nf
 |.ni => some .ni
 |.qu n r => some (.qu n r)
 |.tx n x => some (.tx (upN n) x)
def renL (ns : List Nat) (l : List AC) : Option (List AC) := List.rec (some []) (fun x _ ih => match renA ns x,ih with | some y,some r => some (y :: r) | _,_ => none) l
def enR (ns : List Nat) (E : En) : En := fun k => (ns[k]?).bind E
theorem enR_idx {ns : List Nat} {E : En} {b k : Nat} (h : idxN b ns = some k) : enR ns E k = E b := by
 unfold enR; rw [idxN_ok h]; rfl
theorem renP_ok {ns : List Nat} {E : En} : ∀ {l l' : List (Nat × Nat)} {cs : List Value},renP ns l = some l' → All2 (pV E) l cs → All2 (pV (enR ns E)) l' cs
 |[],l',_,h,.nil => by injection h with h; subst h; exact .nil
 |p :: l,l',_,h,.cons h1 h2 => by
  replace h : (match idxN p.1 ns,renP ns l with | some k,some r => some ((k,p.2) :: r) | _,_ => none) = some l' := h
  split at h
  ·rename_i k r e1 e2
   injection h with h; subst h
   obtain ⟨B,S,g1,g2⟩ := h1
   exact .cons ⟨B,S,(enR_idx e1).trans g1,g2⟩ (renP_ok e2 h2)
  ·cases h
theorem upN_cls {n : Nat} {t : Str} (hn : 100 ≤ upN n) (h : 100 ≤ n → ∃ q ∈ clsN n,t = q.map UInt8.ofNat) : ∃ q ∈ clsN (upN n),t = q.map UInt8.ofNat := by
 unfold upN at hn ⊢
 cases hb : Nat.blt n 100 with
 |true =>
  rw [hb] at hn
  replace hn : 100 ≤ n := hn
  have := Nat.le_of_ble_eq_true hb
  omega
 |false =>
  have hn' : 100 ≤ n := by
   rcases Nat.lt_or_ge n 100 with h' | h'
   ·rw [show Nat.blt n 100 = true from Nat.ble_eq_true_of_le h'] at hb; cases hb
   ·exact h'
  obtain ⟨q,h1,h2⟩ := h hn'
  refine ⟨q,?_,h2⟩
  have e : clsN (4 * (n / 4) + 3) = clsN 3 := by
   unfold clsN
   have : Nat.mod (4 * (n / 4) + 3) 4 = 3 := by show (4 * (n / 4) + 3) % 4 = 3; omega
   rw [this]
  show q ∈ clsN (4 * (n / 4) + 3)
  rw [e]
  exact clsN_sub n q h1
section
variable [Tx]
theorem renA_ok {ns : List Nat} {E : En} {x y : AC} {v : Value} (h : renA ns x = some y) (hv : x.v E v) : y.v (enR ns E) v := by
 unfold renA at h
 split at h
 ·split at h
  ·rename_i b o k e
   injection h with h; subst h
   obtain ⟨B,S,g1,g2⟩ := hv
   exact ⟨B,S,(enR_idx e).trans g1,g2⟩
  ·cases h
 ·split at h
  ·rename_i b o n c es k e
   injection h with h; subst h
   obtain ⟨B,S,o',c',g1,g2⟩ := hv
   exact ⟨B,S,o',c',(enR_idx e).trans g1,g2⟩
  ·cases h
 ·cases h
 ·split at h
  ·rename_i id l l' e
   injection h with h; subst h
   obtain ⟨cs,g1,g2⟩ := hv
   exact ⟨cs,g1,renP_ok e g2⟩
  ·cases h
 all_goals (injection h with h; subst h; first | exact hv | (obtain ⟨h1,h2,h3⟩ := hv; exact ⟨by rw [Tx.up]; exact h1,h2,fun hn => by rw [Tx.up]; exact upN_cls hn h3⟩))
end
theorem renL_ok {ns : List Nat} : ∀ {l l' : List AC},renL ns l = some l' → l'.length = l.length ∧ ∀ (j : Nat) (y : AC),l'[j]? = some y → ∃ x,l[j]? = some x ∧ renA ns x = some y
 |[],l',h => by injection h with h; subst h; exact ⟨rfl,fun j y hy => by simp at hy⟩
 |x :: l,l',h => by
  replace h : (match renA ns x,renL ns l with | some y,some r => some (y :: r) | _,_ => none) = some l' := h
  split at h
  ·rename_i y r e1 e2
   injection h with h; subst h
   obtain ⟨g1,g2⟩ := renL_ok e2
   refine ⟨by simp [g1],fun j z hz => ?_⟩
   cases j with
   |zero => simp at hz; subst hz; exact ⟨x,by simp,e1⟩
   |succ j => simpa using g2 j z (by simpa using hz)
  ·cases h
section
variable [Tx]
theorem renL_pre {ns : List Nat} {E : En} {l l' : List AC} {C : List Value} (h : renL ns l = some l') (k : Pre E l C) : Pre (enR ns E) l' C := fun j y hy => by
 obtain ⟨x,g1,g2⟩ := (renL_ok h).2 j y hy
 obtain ⟨v,g3,g4⟩ := k j x g1
 exact ⟨v,g3,renA_ok g2 g4⟩
def renV (ns : List Nat) : AV → Option AV
 |.c x => match renA ns x with | some y => some (.c y) | none => none
 |.a l => match renL ns l with | some r => some (.a r) | none => none
 |.t _ => none
 |.u => some .u
theorem renL_all {ns : List Nat} {E : En} {l l' : List AC} {C : List Value} (h : renL ns l = some l') (k : ACs E l C) : ACs (enR ns E) l' C :=
 All2.of_get ((renL_ok h).1.trans (All2.length k).symm) fun i y v hy hv => by
  obtain ⟨x,g1,g2⟩ := (renL_ok h).2 i y hy
  obtain ⟨u,g3,g4⟩ := All2.get k i x g1
  rw [hv] at g3; injection g3 with g3; subst g3
  exact renA_ok g2 g4
theorem renV_ok {ns : List Nat} {E : En} {x y : AV} {v : Value} (h : renV ns x = some y) (hv : x.v E v) : y.v (enR ns E) v := by
 unfold renV at h
 split at h
 ·split at h
  ·rename_i e
   injection h with h; subst h
   exact renA_ok e hv
  ·cases h
 ·split at h
  ·rename_i e
   injection h with h; subst h
   obtain ⟨cs,h1,h2⟩ := hv
   exact ⟨cs,h1,renL_all e h2⟩
  ·cases h
 ·cases h
 ·injection h with h; subst h; exact hv
def famOf (H : AH) (n : Nat) : Option Nat := match H.at n with
 |some (_,_,.fam f _) => some f
 |_ => none
def apartN (H : AH) (n : Nat) (l : List Nat) : Bool := List.rec true (fun m _ ih => cond (Nat.beq n m) false (match famOf H n,famOf H m with
 |some f,some g => cond (Nat.beq f g) false ih
 |_,_ => ih)) l
def apartL (H : AH) (l : List Nat) : Bool := List.rec true (fun n r ih => cond (apartN H n r) ih false) l
end
theorem apartN_ok {H : AH} {n : Nat} : ∀ {l : List Nat},apartN H n l = true → ∀ m ∈ l,n ≠ m ∧ ∀ f,famOf H n = some f → famOf H m ≠ some f
 |[],_,m,hm => by cases hm
 |x :: l,h,m,hm => by
  replace h : cond (Nat.beq n x) false (match famOf H n,famOf H x with | some f,some g => cond (Nat.beq f g) false (apartN H n l) | _,_ => apartN H n l) = true := h
  cases hb : Nat.beq n x with
  |true => rw [hb] at h; cases h
  |false =>
   rw [hb] at h
   have hne : n ≠ x := fun e => by subst e; rw [Nat.beq_refl n] at hb; cases hb
   replace h : (match famOf H n,famOf H x with | some f,some g => cond (Nat.beq f g) false (apartN H n l) | _,_ => apartN H n l) = true := h
   have key : apartN H n l = true ∧ ∀ f,famOf H n = some f → famOf H x ≠ some f := by
    split at h
    ·rename_i f g e1 e2
     cases hc : Nat.beq f g with
     |true => rw [hc] at h; cases h
     |false =>
      rw [hc] at h
      refine ⟨h,fun f' e => ?_⟩
      rw [e1] at e; injection e with e; subst e
      rw [e2]; intro e; injection e with e; subst e
      rw [Nat.beq_refl g] at hc; cases hc
    ·rename_i hx
     exact ⟨h,fun f e e' => hx f f e e'⟩
   rcases List.mem_cons.1 hm with rfl | hm
   ·exact ⟨hne,key.2⟩
   ·exact apartN_ok key.1 m hm
theorem apartL_ok {H : AH} : ∀ {l : List Nat},apartL H l = true → ∀ (i j n m : Nat),i ≠ j → l[i]? = some n → l[j]? = some m → n ≠ m ∧ ∀ f,famOf H n = some f → famOf H m ≠ some f
 |[],_,i,j,n,m,_,hi,_ => by simp at hi
 |x :: l,h,i,j,n,m,hij,hi,hj => by
  replace h : cond (apartN H x l) (apartL H l) false = true := h
  cases hb : apartN H x l with
  |false => rw [hb] at h; cases h
  |true =>
   rw [hb] at h
   cases i with
   |zero =>
    simp at hi; subst hi
    cases j with
    |zero => exact absurd rfl hij
    |succ j => exact apartN_ok hb m (List.mem_of_getElem? (by simpa using hj))
   |succ i =>
    cases j with
    |zero =>
     simp at hj; subst hj
     obtain ⟨h1,h2⟩ := apartN_ok hb n (List.mem_of_getElem? (by simpa using hi))
     exact ⟨fun e => h1 e.symm,fun f e e' => h2 f e' e⟩
    |succ j => exact apartL_ok h i j n m (by omega) (by simpa using hi) (by simpa using hj)
def gcB (ns : List Nat) (H : AH) (n : Nat) : Option AO := match H.at n with
 |some (_,_,.ro) => none
 |some (T,c,_) => match renL ns c with
  |some c' => some (.cells T c' .own)
  |none => none
 |none => match H.get n with
  |some (.lst v) => some (.lst v)
  |_ => none
theorem gcB_ok {ns : List Nat} {H : AH} {n : Nat} {o : AO} (h : gcB ns H n = some o) : (∃ T c l c',H.at n = some (T,c,l) ∧ l ≠ .ro ∧ renL ns c = some c' ∧ o = .cells T c' .own) ∨ ∃ v,H.get n = some (.lst v) ∧ o = .lst v := by
 unfold gcB at h
 split at h
 ·cases h
 ·rename_i T c l hl e
  split at h
  ·rename_i c' e2
   injection h with h; subst h
   exact .inl ⟨T,c,l,c',e,fun e' => hl e',e2,rfl⟩
  ·cases h
 ·split at h
  ·rename_i v e
   injection h with h; subst h
   exact .inr ⟨v,e,rfl⟩
  ·cases h
def gcGo (ns : List Nat) (H : AH) (l : List Nat) : AH → Option AH := List.rec (fun acc => some acc) (fun n _ ih acc => match gcB ns H n with
 |some o => ih (acc.push o)
 |none => none) l
theorem gcGo_ok {ns : List Nat} {H : AH} : ∀ {l : List Nat} {acc H' : AH},gcGo ns H l acc = some H' → H'.nx = acc.nx + l.length ∧ H'.fm = acc.fm ∧ ∀ k,H'.get k = if k < acc.nx then acc.get k else if k < acc.nx + l.length then (l[k - acc.nx]?).bind (gcB ns H) else acc.get k
 |[],acc,H',h => by
  injection h with h; subst h
  exact ⟨rfl,rfl,fun k => by by_cases hk : k < acc.nx <;> simp [hk]⟩
 |n :: l,acc,H',h => by
  replace h : (match gcB ns H n with | some o => gcGo ns H l (acc.push o) | none => none) = some H' := h
  split at h
  ·rename_i o e
   obtain ⟨h1,h2,h3⟩ := gcGo_ok h
   have hnx : (acc.push o).nx = acc.nx + 1 := rfl
   refine ⟨by rw [h1,hnx]; simp only [List.length_cons]; omega,h2,fun k => ?_⟩
   rw [h3 k,hnx,AH.get_push]
   by_cases h4 : k < acc.nx
   ·rw [if_pos (by omega),if_pos h4,if_neg (by omega)]
   ·rw [if_neg h4]
    by_cases h5 : k = acc.nx
    ·subst h5
     rw [if_pos (by omega),if_pos rfl,if_pos (by simp),Nat.sub_self]
     simp [e]
    ·rw [if_neg (by omega),show k - acc.nx = (k - (acc.nx + 1)) + 1 by omega,List.getElem?_cons_succ,List.length_cons]
     by_cases h6 : k < acc.nx + (l.length + 1)
     ·rw [if_pos (by omega),if_pos h6]
     ·rw [if_neg (by omega),if_neg h6,if_neg h5]
  ·cases h
def gcH (ns : List Nat) (H : AH) : Option AH := cond (apartL H ns) (gcGo ns H ns ⟨0,.nil,.nil⟩) none
theorem gcH_get {ns : List Nat} {H H' : AH} (h : gcH ns H = some H') : apartL H ns = true ∧ H'.nx = ns.length ∧ H'.fm = .nil ∧ (∀ k,H'.get k = (ns[k]?).bind (gcB ns H)) := by
 unfold gcH at h
 cases hb : apartL H ns with
 |false => rw [hb] at h; cases h
 |true =>
  rw [hb] at h
  obtain ⟨h1,h2,h3⟩ := gcGo_ok (show gcGo ns H ns ⟨0,.nil,.nil⟩ = some H' from h)
  refine ⟨rfl,by simpa using h1,h2,fun k => ?_⟩
  rw [h3 k]
  simp only [Nat.not_lt_zero,if_false,Nat.zero_add,Nat.sub_zero]
  by_cases hk : k < ns.length
  ·rw [if_pos hk]
  ·rw [if_neg hk,List.getElem?_eq_none (by omega)]; rfl
theorem gcGo_some {ns : List Nat} {H : AH} : ∀ {l : List Nat} {acc H' : AH},gcGo ns H l acc = some H' → ∀ n ∈ l,∃ o,gcB ns H n = some o
 |[],_,_,_,n,hn => by cases hn
 |x :: l,acc,H',h,n,hn => by
  replace h : (match gcB ns H x with | some o => gcGo ns H l (acc.push o) | none => none) = some H' := h
  split at h
  ·rename_i o e
   rcases List.mem_cons.1 hn with rfl | hn
   ·exact ⟨o,e⟩
   ·exact gcGo_some h n hn
  ·cases h
theorem gcH_at {ns : List Nat} {H H' : AH} (h : gcH ns H = some H') {k : Nat} (hk : k < ns.length) : (∃ T c,H'.at k = some (T,c,.own)) ∨ ∃ v,H'.get k = some (.lst v) := by
 obtain ⟨ha,hnx,hfm,hget⟩ := gcH_get h
 have h2 : gcGo ns H ns ⟨0,.nil,.nil⟩ = some H' := by
  unfold gcH at h
  rw [ha] at h; exact h
 obtain ⟨o,ho⟩ := gcGo_some h2 _ (List.getElem_mem hk)
 have hg : H'.get k = some o := by rw [hget,List.getElem?_eq_getElem hk]; exact ho
 rcases gcB_ok ho with ⟨T,c,l,c',_,_,_,rfl⟩ | ⟨v,_,rfl⟩
 ·exact .inl ⟨T,c',AH.at_eq.2 ⟨hg,fun f e h => by cases h⟩⟩
 ·exact .inr ⟨v,hg⟩
section
variable [Tx]
theorem gcH_ok {ns : List Nat} {E : En} {H H' : AH} {w0 : W0} {w : World} (h : gcH ns H = some H') (hH : HR E H w0 w) : HR (enR ns E) H' w0 w := by
 obtain ⟨ha,hnx,hfm,hget⟩ := gcH_get h
 have fmn : ∀ f,H'.fm.get f = none := fun f => by rw [hfm]; rfl
 have any : ∀ {k : Nat} {o : AO},H'.get k = some o → ∃ n,ns[k]? = some n ∧ ((∃ T c l c',H.at n = some (T,c,l) ∧ l ≠ .ro ∧ renL ns c = some c' ∧ o = .cells T c' .own) ∨ ∃ v,H.get n = some (.lst v) ∧ o = .lst v) := fun {k o} hk => by
  rw [hget] at hk
  obtain ⟨n,hn,hb⟩ := Option.bind_eq_some_iff.1 hk
  exact ⟨n,hn,gcB_ok hb⟩
 have cells : ∀ {k : Nat} {o : AO},H'.get k = some o → (∀ v,o ≠ .lst v) → ∃ n T c l c',ns[k]? = some n ∧ H.at n = some (T,c,l) ∧ l ≠ .ro ∧ renL ns c = some c' ∧ o = .cells T c' .own := fun {k o} hk ho => by
  obtain ⟨n,hn,⟨T,c,l,c',g⟩ | ⟨v,_,e⟩⟩ := any hk
  ·exact ⟨n,T,c,l,c',hn,g⟩
  ·exact absurd e (ho v)
 have len : ∀ {k n : Nat},ns[k]? = some n → k < H'.nx := fun hn => by
  rw [hnx]; exact (List.getElem?_eq_some_iff.1 hn).1
 have lv : ∀ {k : Nat},live H' k → ∃ n T c l,ns[k]? = some n ∧ H.at n = some (T,c,l) := fun {k} hl => by
  rcases hl with hl | ⟨es,cl,hl⟩
  ·cases hat : H'.at k with
   |none => rw [hat] at hl; cases hl
   |some q =>
    obtain ⟨T,c,l⟩ := q
    obtain ⟨n,T',c',l',_,g1,g2,_⟩ := cells (AH.at_eq.1 hat).1 (by simp)
    exact ⟨n,T',c',l',g1,g2⟩
  ·obtain ⟨n,T',c',l',_,g1,g2,_,_,g5⟩ := cells hl (by simp)
   cases g5
 refine ⟨fun k p hk => by
  obtain ⟨n,_,he⟩ := Option.bind_eq_some_iff.1 hk
  exact hH.lt n p he,hH.wp,hH.ch,fun k p hk => ?_,fun k o hk => ?_,fun f p hf => ?_,fun k T c f e hk => ?_,fun k T c f e hk => ?_,fun k T c l B S hk he => ?_,fun k es cl B S hk he => ?_,fun k k' B S S' hkk he he' hl hl' => ?_,fun k v B S hk he => ?_⟩
 ·obtain ⟨n,hn,_⟩ := Option.bind_eq_some_iff.1 hk
  exact len hn
 ·obtain ⟨n,hn,_⟩ := any hk
  exact len hn
 ·rw [fmn] at hf; cases hf
 ·obtain ⟨_,_,_,_,_,_,_,_,_,e⟩ := cells hk (by simp)
  cases e
 ·obtain ⟨_,_,_,_,_,_,_,_,_,e⟩ := cells (AH.at_eq.1 hk).1 (by simp)
  cases e
 ·obtain ⟨n,T1,c1,l1,c2,hn,hat,hro,hr,e⟩ := cells (AH.at_eq.1 hk).1 (by simp)
  injection e with e1 e2 e3; subst e1; subst e2; subst e3
  have hE : E n = some (B,S) := by
   unfold enR at he; rw [hn] at he; exact he
  obtain ⟨C,T',fz,g1,g2,g3,g4⟩ := hH.cel n _ c1 l1 B S hat hE
  exact ⟨C,T',fz,g1,g2,renL_pre hr g3,fun _ => g4 hro⟩
 ·obtain ⟨_,_,_,_,_,_,_,_,_,e⟩ := cells hk (by simp)
  cases e
 ·obtain ⟨n,T,c,l,hn,hat⟩ := lv hl
  obtain ⟨n',T',c',l',hn',hat'⟩ := lv hl'
  obtain ⟨hne,hf⟩ := apartL_ok ha k k' n n' hkk hn hn'
  have hE : E n = some (B,S) := by unfold enR at he; rw [hn] at he; exact he
  have hE' : E n' = some (B,S') := by unfold enR at he'; rw [hn'] at he'; exact he'
  obtain ⟨f,e,_,_,_,_,g1,g2⟩ := hH.inj n n' B S S' hne hE hE' (.inl (by rw [hat]; rfl)) (.inl (by rw [hat']; rfl))
  have f1 : famOf H n = some f := by unfold famOf; rw [g1]
  have f2 : famOf H n' = some f := by unfold famOf; rw [g2]
  exact absurd f2 (hf f f1)
 ·obtain ⟨n,hn,⟨_,_,_,_,_,_,_,e⟩ | ⟨v',hg,e⟩⟩ := any hk
  ·cases e
  injection e with e; subst e
  have hE : E n = some (B,S) := by unfold enR at he; rw [hn] at he; exact he
  obtain ⟨K,h1,h2,h3,h4⟩ := hH.ls n v B S hg hE
  refine ⟨K,h1,h2,fun m p hm hp => ?_,h4⟩
  obtain ⟨n',hn',hp'⟩ := Option.bind_eq_some_iff.1 hp
  exact h3 n' p (apartL_ok ha m k n' n hm hn' hn).1 hp'
end
end
end Ev
end
section
open Go.RowKit
attribute [local go_sem] Oper.semAt_some
def KeyOk (ats : List (Str × Str)) : Prop := ats = []
def keyA (_ : List (Str × Str)) : Str := []
set_option maxHeartbeats 2000000 in
set_option maxRecDepth 100000 in
theorem string_nil (b : Nat) (p : Value) (w : World) (hbk : w.heap[b]? = some (.cells #[p,.slice none 0 0] 183 (0,0))) :
  Calls Tryz.prog 192 #[.pointer (some ⟨b,0,none⟩)] w fun e w' => e = .returned (.string ⟨#[]⟩) ∧ w' = w.drew := by
 have c1 : w.drew.cell? ⟨b,1,none⟩ = some (.slice none 0 0) := by
  have : w.drew.heap[b]? = some (.cells #[p,.slice none 0 0] 183 (0,0)) := hbk
  rw [Lib.cell_of_heap this]; rfl
 have hSD : (Builtin.unsafeSliceData_ #[95] 204 #[.slice none 0 0]).run Tryz.prog w.drew = .ok (.pointer none) w.drew := rfl
 have hUS : (Builtin.unsafeString_ #[204,3] 9 #[.pointer none,.int .i64 0]).run Tryz.prog w.drew = .ok (.string ⟨#[]⟩) w.drew :=
  Lib.run_unsafeString_none _ _ _ _ _
 have mixed : Tryz.prog.follows .mixedOrders = true := by kernel_rfl
 go_enter Tryz.func192,Tryz.ntmps192
 go_wp2
 go_region_o
 all_goals (go_wp2; go_ret; exact ⟨rfl,rfl⟩)
theorem fmtKey {w : World} {id : Int} {nm : Str} {sa : Sl} {ats : List (Str × Str)} (h : Row [] w sa 2 (ats.map ac)) (hk : KeyOk ats) (_ : ats.length ≤ 1000) : Calls Tryz.prog 180 #[.agg #[.int .i64 id,.string (Bs nm),sa.v]] w
  (Ret fun v w' => Ext w w' ∧ v = .agg #[.string (Bs nm),.string (Bs (keyA ats))]) := by
 have e : ats = [] := hk
 subst e
 refine format_Entry_key.ok _ _ _ ?_
 unfold format_Entry_key.vc
 intro w8 B2 B4 B7 n2 n4 n7 h24 h27 h47 c8 hB7
 have hl : sa.n = 0 := h.len
 refine ⟨fun x w' => x = 0 ∧ w' = w8,fun _ _ => 0,⟨rfl,rfl⟩,?_⟩
 rintro _ _ ⟨rfl,rfl⟩
 refine ⟨fun hlt => by omega,fun _ w187 c187 => ?_⟩
 refine Calls.mono (string_nil B7 _ w187 (hB7.ext c187)) fun e w' ⟨h1,h2⟩ => ?_
 subst h1; subst h2
 have hd : Ext w187 w187.drew := (Chg.refl [] w187).drew
 refine ⟨Chg.noTouch hd _ (by simp),hd.size,[],rfl,fun w207 c207 w228 c228 => ⟨?_,rfl⟩⟩
 exact Chg.fresh (((c8.trans c187).trans hd).trans c207) c228 (by have := n4.ge; simp; omega)
end
section
open Go.RowKit
variable {A F : List Nat} {w w' : World} {B : Nat} {s s' : Sl} {X X' : List Sd}
theorem cells3 {p : Addr} {x : Sd} (h : Cells w p (sdc x)) : Cells w (p.add 0) [.int .i64 x.id,.string (Bs x.nm),x.sa.v] := by
 rw [Addr.add_zero']
 intro j v hv
 match j,hv with
 |0,hv => exact h 0 v hv
 |1,hv => exact h 1 v hv
 |2,hv => exact h 2 v hv
 |n + 3,hv => simp at hv
theorem fmtAt (h : FL A w B s X) {k : Nat} (hk : k < X.length) : Calls Tryz.prog 138 #[.pointer (some ⟨B,0,none⟩),.int .i64 (k : Int)] w
  (Ret fun v w' => Ext w w' ∧ ∃ sa' : Sl,v = .tuple #[.agg #[.int .i64 (X.getD k default).id,.string (Bs (X.getD k default).nm),Sl.v sa'],.bool true]) := by
 refine format_List_At.ok _ _ ?_
 unfold format_List_At.vc
 have hl := h.len
 intro w4 C hN c4
 refine ⟨s,fun _ => (h.ext c4).cell,fun hh => by omega,fun _ => ?_⟩
 have h4 := h.ext c4
 obtain ⟨p,hp,hc⟩ := h4.at_ hk
 have ha := h4.ats _ (h4.mem hk)
 rw [Int.toNat_natCast]
 refine ⟨s,h4.cell,⟨by omega,by omega⟩,p,hp,_,_,_,cells3 hc,CallK.ext (fmtClone (ha.1.row.less (by simp)) ha.2) fun v w14 c14 ⟨sa',hv,_⟩ => ⟨_,_,sa',hv,fun w15 c15 => ⟨Chg.fresh (c4.trans c14) c15 (by have := hN.ge; simp; omega),sa',rfl⟩⟩⟩
def lastIn (X : List Sd) (nm : Str) (f : Nat) : Nat → Option Nat
 |0 => none
 |k + 1 => if f ≤ k then if (X.getD k default).nm = nm then some k else lastIn X nm f k else none
theorem fmtLast (h : FL A w B s X) (nm : Str) : Calls Tryz.prog 164 #[.pointer (some ⟨B,0,none⟩),.string (Bs nm)] w
  (Ret fun v w' => Ext w w' ∧ match lastIn X nm (fromAt X X.length) X.length with
   |some k => ∃ sa' : Sl,v = .tuple #[.agg #[.int .i64 (X.getD k default).id,.string (Bs (X.getD k default).nm),Sl.v sa'],.bool true]
   |none => v = .tuple #[.agg #[.int .i64 0,.string (Bs ([] : Str)),Sl.v Sl.nil],.bool false]) := by
 refine format_List_Last.ok _ _ ?_
 unfold format_List_Last.vc
 have hl := h.len
 have hfew := h.few
 intro w4 C hN c4
 have hCge := hN.ge
 refine ⟨s,(h.ext c4).cell,⟨by omega,by omega⟩,fun i w' => Ext w4 w' ∧ ∃ k : Nat,i = (k : Int) - 1 ∧ k ≤ X.length ∧ lastIn X nm (fromAt X X.length) X.length = lastIn X nm (fromAt X X.length) k,fun i _ => (i + 1).toNat,⟨Chg.refl _ _,X.length,by omega,Nat.le_refl _,rfl⟩,?_⟩
 rintro _ w9 ⟨c9,k,rfl,hk,he⟩
 have h9 := (h.ext c4).ext c9
 refine CallK.exact (fmtFrom h9) fun w28 c28 => ⟨_,rfl,fun hle => ?_,fun hnle w43 c43 => ⟨Chg.fresh (c4.trans (c9.trans c28)) c43 (by simp; omega),?_⟩⟩
 ·obtain ⟨k,rfl⟩ : ∃ j,k = j + 1 := ⟨k - 1,by omega⟩
  have e1 : (((k + 1 : Nat) : Int) - 1) = (k : Int) := by omega
  rw [e1] at hle ⊢
  rw [Int.toNat_natCast]
  have h28 := h9.ext c28
  obtain ⟨p,hp,hc⟩ := h28.at_ (k := k) (by omega)
  rw [lastIn,if_pos (by omega)] at he
  refine ⟨s,h28.cell,⟨by omega,by omega⟩,p,hp,(X.getD k default).nm,?_,fun hn => ?_,fun hn => ⟨⟨by omega,by omega⟩,⟨c9.trans c28,k,rfl,by omega,by rw [he,if_neg hn]⟩,by show ((k : Int) - 1 + 1).toNat < ((k : Int) + 1).toNat; omega⟩⟩
  ·rw [Addr.add_zero']; exact hc 1 _ rfl
  ·have ha := h28.ats _ (h28.mem (k := k) (by omega))
   refine ⟨s,h28.cell,⟨by omega,by omega⟩,p,hp,_,_,_,cells3 hc,CallK.ext (fmtClone (ha.1.row.less (by simp)) ha.2) fun v w38 c38 ⟨sa',hv,_⟩ => ⟨_,_,sa',hv,fun w39 c39 => ⟨Chg.fresh ((c4.trans (c9.trans c28)).trans c38) c39 (by simp; omega),?_⟩⟩⟩
   rw [he,if_pos hn]
   exact ⟨sa',rfl⟩
 ·cases k with
  |zero => rw [he]; rfl
  |succ k => rw [he,lastIn,if_neg (by omega)]
theorem placeAt_spec : ∀ (X : List Sd) (id : Int) (k : Nat),(placeAt X id k = -1 ∧ ∀ x ∈ X,¬ (x.mar = false ∧ x.id = id)) ∨ ∃ j : Nat,placeAt X id k = ((k + j : Nat) : Int) ∧ j < X.length ∧ (X.getD j default).mar = false ∧ (X.getD j default).id = id ∧ ∀ x ∈ X.take j,¬ (x.mar = false ∧ x.id = id)
 |[],id,k => .inl ⟨rfl,by simp⟩
 |x :: r,id,k => by
  rw [placeAt]
  by_cases hx : x.mar = false ∧ x.id = id
  ·rw [if_pos hx]; exact .inr ⟨0,by simp,by simp,hx.1,hx.2,by simp⟩
  ·rw [if_neg hx]
   rcases placeAt_spec r id (k + 1) with ⟨h1,h2⟩ | ⟨j,h1,h2,h3,h4,h5⟩
   ·left; exact ⟨by rw [← h1]; rfl,fun y hy => (List.mem_cons.1 hy).elim (fun e => by rw [e]; exact hx) fun e => h2 y e⟩
   ·right; refine ⟨j + 1,?_,by simp; omega,h3,h4,fun y hy => ?_⟩
    ·have : ((k + 1 : Nat) : Int) = (k : Int) + 1 := by omega
     rw [this] at h1; rw [h1]; omega
    ·rw [List.take_succ_cons] at hy
     rcases List.mem_cons.1 hy with e | e
     ·rw [e]; exact hx
     ·exact h5 y e
def remAt (X : List Sd) (i : Int) : List Sd := if 0 ≤ i then X.take i.toNat ++ X.drop (i.toNat + 1) else X
theorem fmtRemove (h : FL A w B s X) (id : Int) : Calls Tryz.prog 165 #[.pointer (some ⟨B,0,none⟩),.int .i64 id] w
  (Ret fun v w' => Mod A w w' ∧ v = .bool (decide (0 ≤ placeAt X id 0)) ∧ ∃ s',FL A w' B s' (remAt X (placeAt X id 0))) := by
 refine format_List_Remove.ok _ _ ?_
 unfold format_List_Remove.vc
 have hl := h.len
 have hfew := h.few
 refine CallK.exact (fmtPlace h id) fun w5 c5 => ⟨_,rfl,fun h0 => ?_,fun h0 => ⟨Mod.ext c5,rfl,s,by rw [remAt,if_neg h0]; exact h.ext c5⟩⟩
 have h5 := h.ext c5
 rcases placeAt_spec X id 0 with ⟨e,_⟩ | ⟨j,e,hj,_⟩
 ·rw [show ((0 : Nat) : Int) = 0 from rfl] at e; omega
 rw [show ((0 : Nat) : Int) = 0 from rfl,Nat.zero_add] at e
 rw [e] at h0 ⊢
 refine ⟨s,h5.cell,⟨by omega,by omega⟩,?_⟩
 refine Ret.mono (slicesDelete_slot (A := B :: A) (h5.row.cons h5.apart) (sdcs_one X) (by simpa using hj) (by simp; omega)) fun v w10 ⟨c10,s',hv,ho,hb⟩ => ⟨c10.noTouch _ (by simp),c10.size,s',hv,B,0,73,[s.v],Addr.add_zero' _,h5.box.keep c10 h5.apart,by simp,by simp,fun w15 c15 hB15 => ?_⟩
 have c : Chg (B :: s.blk) w w15 := ((c5.mono (by simp)).trans (c10.mono fun b hb => List.mem_cons_of_mem _ hb)).trans (c15.mono (by simp))
 refine ⟨h.mod c,by rw [show decide ((0 : Int) ≤ (j : Int)) = true from decide_eq_true (by omega)],s',h.next c hB15 ?_ (fun x hx => .inl ?_) ?_⟩
 ·have := (ho.chg c15 (by simp)).less (A' := A) (fun b hb => by simp [hb])
  rw [remAt,if_pos h0,Int.toNat_natCast,List.map_append,List.map_take,List.map_drop]; exact this
 ·rw [remAt,if_pos h0] at hx
  rcases List.mem_append.1 hx with hx | hx
  ·exact List.mem_of_mem_take hx
  ·exact List.mem_of_mem_drop hx
 ·rw [remAt,if_pos h0,List.length_append,List.length_take,List.length_drop]; omega
end
section
set_option maxRecDepth 10000
open Go.RowKit Go.MapKept
def kv (k : Str × Str) : Value := .agg #[.string (Bs k.1),.string (Bs k.2)]
def mkE (p : (Str × Str) × Int × Nat) : MapEntry := ⟨kv p.1,.int .i64 p.2.1,p.2.2⟩
structure CntAt (w : World) (B : Nat) (L : List ((Str × Str) × Int × Nat)) : Prop where
 ex : ∃ clock,w.heap[B]? = some (.map (L.map mkE).toArray clock) ∧ ∀ p ∈ L,p.2.2 < clock
 nd : (L.map fun p => p.2.2).Nodup
def cntL (L : List ((Str × Str) × Int × Nat)) (k : Str × Str) : Int := match L with
 |[] => 0
 |p :: r => if p.1 = k then p.2.1 else cntL r k
def idxL (L : List ((Str × Str) × Int × Nat)) (k : Str × Str) : Option Nat := match L with
 |[] => none
 |p :: r => if p.1 = k then some 0 else (idxL r k).map (· + 1)
variable {w w' : World} {B : Nat} {L : List ((Str × Str) × Int × Nat)} {F : List Nat}
theorem CntAt.lt (h : CntAt w B L) : B < w.heap.size := by
 obtain ⟨c,h1,_⟩ := h.ex
 exact (Array.getElem?_eq_some_iff.1 h1).1
theorem CntAt.chg (h : CntAt w B L) (c : Chg F w w') (hB : B ∉ F) : CntAt w' B L := by
 have hl := h.lt
 obtain ⟨k,h1,h2⟩ := h.ex
 exact ⟨⟨k,by rw [c.block B hl hB]; exact h1,h2⟩,h.nd⟩
theorem CntAt.ext (h : CntAt w B L) (c : Ext w w') : CntAt w' B L := h.chg c (by simp)
theorem cntMake {bx : List Nat} {K : Value → World → Prop} (k : ∀ B w',Ext w w' → w.heap.size ≤ B → CntAt w' B [] → K (.map (some B)) w') : RunK Tryz.prog (Instr.makeMap 172 none) w bx K := by
 have hr : (Instr.makeMap 172 none).run Tryz.prog w = .ok (.map (some w.heap.size)) (w.alloc (.map #[] 0)) := by
  simp [Instr.makeMap,Result.andThen]
 exact ⟨_,_,hr,(Ext.alloc _ _).noTouch _,(Ext.alloc _ _).size,k _ _ (Ext.alloc _ _) (Nat.le_refl _) ⟨⟨0,heap_alloc_new w _,by simp⟩,by simp⟩⟩
theorem key_check (em : Bool) (k : Str × Str) : (Instr.checkKey em 10000 170 (kv k)).run Tryz.prog w = .ok () w := by
 have hs : ∀ s,(Instr.checkKey em (9998 + 1) 9 (.string s)).run Tryz.prog w = .ok () w := fun s => run_checkKey (d := .string) Tryz.underlying9 (show IsKey .string (.string s) from trivial) em 9998
 have hp1 : (part 9 #[.string (Bs k.1),.string (Bs k.2)] 0).run Tryz.prog w = .ok (.string (Bs k.1)) w := by kernel_rfl
 have hp2 : (part 9 #[.string (Bs k.1),.string (Bs k.2)] 1).run Tryz.prog w = .ok (.string (Bs k.2)) w := by kernel_rfl
 have e : (10000 : Nat) = (9998 + 1) + 1 := rfl
 rw [e,Instr.checkKey,Sem.run_bind,run_underlying Tryz.underlying170,Result.andThen_ok]
 simp only [kv]
 generalize (9998 + 1 : Nat) = n at hs ⊢
 simp [hs,hp1,hp2,Result.andThen]
theorem key_eq (a b : Str × Str) : (Op.equal 170 (kv a) (kv b)).run Tryz.prog w = .ok (decide (a = b)) w := by
 have h := (eq_170 a.1 a.2 b.1 b.2).2 w
 have e : decide (a = b) = decide (a.1 = b.1 ∧ a.2 = b.2) := by
  rcases a with ⟨a1,a2⟩; rcases b with ⟨b1,b2⟩; simp
 rw [e]; exact h
theorem key_ask (k : Str × Str) : ∀ (L : List ((Str × Str) × Int × Nat)) (i : Nat),(Instr.findAsking 170 (kv k) (L.map mkE) i).run Tryz.prog w = .ok ((idxL L k).map fun j => (i + j,.int .i64 (cntL L k))) w
 |[],i => by simp [Instr.findAsking,idxL]
 |p :: r,i => by
  rw [List.map_cons,Instr.findAsking,Sem.run_bind,show (mkE p).key = kv p.1 from rfl,key_eq,Result.andThen_ok,idxL,cntL]
  by_cases h : p.1 = k
  ·subst h; simp [mkE]
  ·have h' : ¬ k = p.1 := fun e => h e.symm
   simp only [h,h',decide_false,if_false,Bool.false_eq_true]
   rw [key_ask k r (i + 1)]
   cases idxL r k with
   |none => rfl
   |some j => simp [Nat.add_comm,Nat.add_left_comm]
theorem key_find (k : Str × Str) (L : List ((Str × Str) × Int × Nat)) : (Instr.findKey 170 (kv k) (L.map mkE)).run Tryz.prog w = .ok ((idxL L k).map fun j => (j,.int .i64 (cntL L k))) w := by
 rw [Instr.findKey,Sem.run_bind,run_underlying Tryz.underlying170,Result.andThen_ok]
 cases L with
 |nil => rfl
 |cons p r =>
  have : ∀ d es,Instr.findNow (.struct d) (kv k) ((p :: r).map mkE) es = none := fun d es => rfl
  rw [this]
  have h := key_ask (w := w) k (p :: r) 0
  simpa using h
theorem cntLook (h : CntAt w B L) (k : Str × Str) : (Instr.lookup 172 (.map (some B)) (kv k) false).run Tryz.prog w = .ok (.int .i64 (cntL L k)) w := by
 obtain ⟨c,hb,hc⟩ := h.ex
 have hn : idxL L k = none → cntL L k = 0 := by
  clear hc hb h
  induction L with
  |nil => intro _; rfl
  |cons p r ih =>
   rw [idxL,cntL]
   by_cases hp : p.1 = k
   ·simp [hp]
   ·simp only [hp,if_false,Option.map_eq_none_iff]; exact ih
 simp only [Instr.lookup,Sem.run_bind,run_underlying Tryz.underlying172,Go.MapKept.run_getObj_map hb,Result.andThen_ok,Sem.run_pure,key_check,key_find]
 cases hi : idxL L k with
 |none => rw [hn hi]; rfl
 |some j => rfl
def Stamp (L : List ((Str × Str) × Int × Nat)) (k : Str × Str) (b : Nat) : Prop := ∃ i p,idxL L k = some i ∧ L[i]? = some p ∧ p.2.2 = b
theorem idx_none {k : Str × Str} : ∀ {L : List ((Str × Str) × Int × Nat)},idxL L k = none → cntL L k = 0 ∧ ∀ j b,(∀ v,cntL (L ++ [(k,v,b)]) j = if j = k then v else cntL L j) ∧ idxL (L ++ [(k,0,b)]) k = some L.length
 |[],_ => by
  refine ⟨rfl,fun j b => ⟨fun v => ?_,by simp [idxL]⟩⟩
  simp only [List.nil_append,cntL]
  by_cases h : j = k
  ·simp [h]
  ·have h' : ¬ k = j := fun e => h e.symm
   simp [h,h']
 |p :: r,h => by
  rw [idxL] at h
  by_cases hp : p.1 = k
  ·simp [hp] at h
  ·simp only [hp,if_false,Option.map_eq_none_iff] at h
   obtain ⟨h1,h2⟩ := idx_none h
   refine ⟨by rw [cntL,if_neg hp]; exact h1,fun j b => ⟨fun v => ?_,?_⟩⟩
   ·rw [List.cons_append,cntL,cntL,(h2 j b).1 v]
    by_cases hj : p.1 = j
    ·have : ¬ j = k := fun e => hp (hj.trans e)
     simp [hj,this]
    ·simp [hj]
   ·rw [List.cons_append,idxL,if_neg hp,(h2 k b).2]; rfl
theorem idx_some {k : Str × Str} : ∀ {L : List ((Str × Str) × Int × Nat)} {i : Nat},idxL L k = some i → ∃ p,L[i]? = some p ∧ p.1 = k ∧ p.2.1 = cntL L k ∧ ∀ j v,cntL (L.modify i fun p => (p.1,v,p.2.2)) j = if j = k then v else cntL L j
 |[],i,h => by simp [idxL] at h
 |p :: r,i,h => by
  rw [idxL] at h
  by_cases hp : p.1 = k
  ·simp only [hp,if_true,Option.some.injEq] at h
   subst h
   refine ⟨p,rfl,hp,by rw [cntL,if_pos hp],fun j v => ?_⟩
   simp only [List.modify_zero_cons,cntL,hp]
   by_cases hj : j = k
   ·simp [hj]
   ·have : ¬ k = j := fun e => hj e.symm
    simp [hj,this]
  ·simp only [hp,if_false,Option.map_eq_some_iff] at h
   obtain ⟨i',hi,rfl⟩ := h
   obtain ⟨q,h1,h2,h3,h4⟩ := idx_some hi
   refine ⟨q,by simpa using h1,h2,by rw [cntL,if_neg hp]; exact h3,fun j v => ?_⟩
   rw [List.modify_succ_cons,cntL,cntL,h4 j v]
   by_cases hj : p.1 = j
   ·have : ¬ j = k := fun e => hp (hj.trans e)
    simp [hj,this]
   ·simp [hj]
theorem find_born : ∀ {L : List ((Str × Str) × Int × Nat)} {i : Nat} {p : (Str × Str) × Int × Nat},(L.map fun p => p.2.2).Nodup → L[i]? = some p → (L.map mkE).findIdx? (fun e => (e.born : Int) == ((p.2.2 : Nat) : Int)) = some i
 |[],i,p,_,h => by simp at h
 |q :: r,0,p,_,h => by simp at h; subst h; simp [List.findIdx?_cons,mkE]
 |q :: r,i + 1,p,hn,h => by
  simp only [List.map_cons,List.nodup_cons] at hn
  simp only [List.getElem?_cons_succ] at h
  have hne : q.2.2 ≠ p.2.2 := fun e => hn.1 (List.mem_map.2 ⟨p,List.mem_of_getElem? h,e.symm⟩)
  have hb : (((mkE q).born : Int) == ((p.2.2 : Nat) : Int)) = false := by
   simp only [mkE,beq_eq_false_iff_ne,ne_eq,Int.natCast_inj]; exact hne
  rw [List.map_cons,List.findIdx?_cons,hb]
  simp [find_born hn.2 h]
theorem key_stays (k : Str × Str) : (Instr.keyThatStays (kv k) (kv k)).run Tryz.prog w = .ok (kv k) w := by
 have : Instr.sameBits 10000 (kv k) (kv k) = true := by
  have e : (10000 : Nat) = 9999 + 1 := rfl
  rw [e]; simp [kv,Instr.sameBits,bytes_beq]
 simp [Instr.keyThatStays,this]
theorem set_chg (w : World) (B : Nat) (o : Obj) : Chg [B] w { w with heap := w.heap.setIfInBounds B o } := ⟨rfl,rfl,rfl,by simp,fun i _ hi => by simp [Ne.symm (show i ≠ B by simpa using hi)]⟩
theorem cntEntry {bx : List Nat} {K : Value → World → Prop} (h : CntAt w B L) (k : Str × Str) (hbx : B ∉ bx) (kk : ∀ w' L' (b : Nat),Chg [B] w w' → CntAt w' B L' → (∀ j,cntL L' j = cntL L j) → Stamp L' k b → K (.tuple #[.int .i64 (cntL L k),.int .i64 (b : Int)]) w') :
  RunK Tryz.prog (Instr.mapEntry 172 (.map (some B)) (kv k)) w bx K := by
 obtain ⟨c,hb,hc⟩ := h.ex
 cases hi : idxL L k with
 |none =>
  obtain ⟨h0,h1⟩ := idx_none hi
  refine ⟨_,{ w with heap := w.heap.setIfInBounds B (.map ((L ++ [(k,0,c)]).map mkE).toArray (c + 1)) },?_,(set_chg _ _ _).noTouch _ (fun b hb hm => hbx (by simp at hm; rwa [← hm])),(set_chg _ _ _).size,kk _ (L ++ [(k,0,c)]) c (set_chg _ _ _) ⟨⟨c + 1,(heap_set hb).1,fun p hp => ?_⟩,?_⟩ (fun j => ?_) ⟨L.length,(k,0,c),(h1 k c).2,by simp,rfl⟩⟩
  ·simp [Instr.mapEntry,run_underlying Tryz.underlying172,Go.MapKept.run_getObj_map hb,key_check,key_find,hi,h0,Go.MapKept.run_setObj_map _ hb,Result.andThen,ti_3.zeroValue,goInt,mkE]
  ·rcases List.mem_append.1 hp with hp | hp
   ·exact Nat.lt_succ_of_lt (hc p hp)
   ·simp at hp; subst hp; exact Nat.lt_succ_self _
  ·rw [List.map_append]
   refine List.nodup_append.2 ⟨h.nd,by simp,fun a ha b hb e => ?_⟩
   obtain ⟨x,hx,rfl⟩ := List.mem_map.1 ha
   have := hc x hx
   simp at hb; omega
  ·rw [(h1 j c).1 0]
   by_cases hj : j = k
   ·simp [hj,h0]
   ·simp [hj]
 |some i =>
  obtain ⟨p,h1,h2,h3,_⟩ := idx_some hi
  have hke : (L.map mkE)[i]? = some (mkE p) := by rw [List.getElem?_map,h1]; rfl
  have hsame : ((L.map mkE).toArray.modify i fun e => { e with key := kv k }) = (L.map mkE).toArray := by
   apply Array.ext'
   rw [Array.toList_modify]
   apply List.ext_getElem?
   intro j
   rw [List.getElem?_modify]
   by_cases hj : i = j
   ·subst hj; simp [h1,mkE,h2]
   ·simp [hj]
  refine ⟨_,{ w with heap := w.heap.setIfInBounds B (.map (L.map mkE).toArray c) },?_,(set_chg _ _ _).noTouch _ (fun b hb hm => hbx (by simp at hm; rwa [← hm])),(set_chg _ _ _).size,kk _ L p.2.2 (set_chg _ _ _) ⟨⟨c,(heap_set hb).1,hc⟩,h.nd⟩ (fun _ => rfl) ⟨i,p,hi,h1,rfl⟩⟩
  have hke' : (L.map mkE).toArray[i]? = some (mkE p) := by simpa using hke
  simp only [Instr.mapEntry,Sem.run_bind,run_underlying Tryz.underlying172,Go.MapKept.run_getObj_map hb,key_check,key_find,hi,Result.andThen_ok,Option.map_some,hke',Option.getD_some,show (mkE p).key = kv k from congrArg kv h2,key_stays,hsame,Go.MapKept.run_setObj_map _ hb,Sem.run_pure]
  rfl
theorem cntStore {bx : List Nat} {K : World → Prop} (h : CntAt w B L) {k : Str × Str} {b : Nat} (hs : Stamp L k b) (v : Int) (hbx : B ∉ bx) (kk : ∀ w' L',Chg [B] w w' → CntAt w' B L' → (∀ j,cntL L' j = if j = k then v else cntL L j) → K w') :
  RunU Tryz.prog (Instr.entryStore 172 (.map (some B)) (.int .i64 (b : Int)) (.int .i64 v)) w bx K := by
 obtain ⟨c,hb,hc⟩ := h.ex
 obtain ⟨i,p,h1,h2,rfl⟩ := hs
 obtain ⟨_,_,_,_,h4⟩ := idx_some h1
 have hf := find_born h.nd h2
 have hmod : ((L.map mkE).toArray.modify i fun e => { e with val := .int .i64 v }) = ((L.modify i fun p => (p.1,v,p.2.2)).map mkE).toArray := by
  apply Array.ext'
  rw [Array.toList_modify]
  apply List.ext_getElem?
  intro j
  simp only [List.getElem?_modify,List.getElem?_map]
  cases L[j]? with
  |none => rfl
  |some q => by_cases hj : i = j <;> simp [hj,mkE]
 have hborn : ((L.modify i fun p => (p.1,v,p.2.2)).map fun p => p.2.2) = L.map fun p => p.2.2 := by
  apply List.ext_getElem?
  intro j
  simp only [List.getElem?_modify,List.getElem?_map]
  cases L[j]? with
  |none => rfl
  |some q => by_cases hj : i = j <;> simp [hj]
 refine ⟨{ w with heap := w.heap.setIfInBounds B (.map ((L.modify i fun p => (p.1,v,p.2.2)).map mkE).toArray c) },?_,(set_chg _ _ _).noTouch _ (fun b hb hm => hbx (by simp at hm; rwa [← hm])),(set_chg _ _ _).size,kk _ _ (set_chg _ _ _) ⟨⟨c,(heap_set hb).1,fun q hq => ?_⟩,by rw [hborn]; exact h.nd⟩ (fun j => h4 j v)⟩
 ·have hf' : (L.map mkE).toArray.findIdx? (fun e => (e.born : Int) == ((p.2.2 : Nat) : Int)) = some i := by simpa using hf
  simp only [Instr.entryStore,Sem.run_bind,Go.MapKept.run_getObj_map hb,Result.andThen_ok,asInt,asIntOf,Sem.run_pure,hf',hmod,Go.MapKept.run_setObj_map _ hb]
 ·have : q.2.2 ∈ (L.modify i fun p => (p.1,v,p.2.2)).map fun p => p.2.2 := List.mem_map.2 ⟨q,hq,rfl⟩
  rw [hborn] at this
  obtain ⟨x,hx,e⟩ := List.mem_map.1 this
  have := hc x hx; omega
end
section
open Go.RowKit
def keyOf (x : Sd) : Str × Str := (x.nm,keyA x.ats)
def firstIn (X : List Sd) (k : Str × Str) (f : Nat) : Nat → Int
 |0 => -1
 |m + 1 => if firstIn X k f m < 0 ∧ keyOf (X.getD (f + m) default) = k then ((f + m : Nat) : Int) else firstIn X k f m
def countIn (X : List Sd) (k : Str × Str) (f : Nat) : Nat → Int
 |0 => 0
 |m + 1 => countIn X k f m + if keyOf (X.getD (f + m) default) = k then 1 else 0
theorem countIn_le (X : List Sd) (k : Str × Str) (f : Nat) : ∀ m,0 ≤ countIn X k f m ∧ countIn X k f m ≤ m
 |0 => ⟨Int.le_refl _,Int.le_refl _⟩
 |m + 1 => by have := countIn_le X k f m; rw [countIn]; split <;> omega
theorem firstIn_le (X : List Sd) (k : Str × Str) (f : Nat) : ∀ m,-1 ≤ firstIn X k f m ∧ firstIn X k f m < f + m ∧ (0 < countIn X k f m → 0 ≤ firstIn X k f m)
 |0 => ⟨Int.le_refl _,by rw [firstIn]; omega,by rw [countIn]; omega⟩
 |m + 1 => by
  have := firstIn_le X k f m
  rw [firstIn,countIn]
  by_cases h : keyOf (X.getD (f + m) default) = k
  ·simp only [h,and_true,if_true]
   split <;> omega
  ·simp only [h,and_false,if_false]; omega
def pushX (X : List Sd) (k : Str × Str) : List Sd :=
 if 3 ≤ countIn X k (fromAt X X.length) (X.length - fromAt X X.length) then X.take (firstIn X k (fromAt X X.length) (X.length - fromAt X X.length)).toNat ++ X.drop ((firstIn X k (fromAt X X.length) (X.length - fromAt X X.length)).toNat + 1) else X
variable {A F : List Nat} {w w' : World} {B : Nat} {s s' : Sl} {X X' : List Sd}
theorem FL.sa' (h : FL A w B s X) {sa : Sl} {us : List (List Value)} (ho : Own [] w sa 2 79 us) : ∀ b ∈ sa.blk,b ∉ B :: s.blk := by
 intro b hb hm
 rcases List.mem_cons.1 hm with e | e
 ·subst e; exact ho.other h.box (by decide) hb
 ·rcases h.row.at_ with e' | ⟨g,cur,hg,_,hB,_⟩
  ·rw [e'] at e; simp [Sl.blk,Sl.nil] at e
  ·simp [Sl.blk,hg] at e; subst e; exact ho.other hB (by decide) hb
theorem fmtPush (h : FL A w B s X) (hf : X.length < 1000000) (hX : ∀ x ∈ X,KeyOk x.ats) {id : Int} {nm : Str} {sa : Sl} {ats : List (Str × Str)} (ha : Own [] w sa 2 79 (ats.map ac)) (hb : ats.length ≤ 1000) (hk : KeyOk ats) :
  Calls Tryz.prog 166 #[.pointer (some ⟨B,0,none⟩),.agg #[.int .i64 id,.string (Bs nm),sa.v]] w
   (Ret fun v w' => Mod A w w' ∧ v = .tuple #[] ∧ ∃ s' sa',FL A w' B s' (pushX X (nm,keyA ats) ++ [⟨id,nm,ats,false,sa'⟩])) := by
 refine format_List_Push.ok _ _ _ _ ?_
 unfold format_List_Push.vc
 have hl := h.len
 have hfr := fromAt_le X X.length
 intro w4 B3 n3 c4
 refine CallK.exact (fmtKey (ha.ext c4).row hk hb) fun w7 c7 => ⟨nm,keyA ats,rfl,fun w10 B8 n8 c10 => ?_⟩
 refine cntMake fun BM w12 c12 hBM hM => ⟨some BM,rfl,?_⟩
 have e12 : Ext w w12 := ((c4.trans c7).trans c10).trans c12
 have hg3 := n3.ge
 have hl3 := n3.lt
 have hg8 := n8.ge
 have hl8 := n8.lt
 have hs7 := c7.size
 have hs10 := c10.size
 have hs12 := c12.size
 refine CallK.exact (fmtFrom (h.ext e12)) fun w17 c17 => ⟨_,rfl,?_⟩
 generalize hfe : fromAt X X.length = f at *
 have e17 := e12.trans c17
 refine ⟨fun first i w' => ∃ m : Nat,i = ((f + m : Nat) : Int) ∧ f + m ≤ X.length ∧ first = firstIn X (nm,keyA ats) f m ∧ Ext w w' ∧ w17.heap.size ≤ w'.heap.size ∧ ∃ L,CntAt w' BM L ∧ ∀ j,cntL L j = countIn X j f m,fun _ i _ => X.length - i.toNat,⟨0,rfl,hfr,rfl,e17,Nat.le_refl _,[],hM.ext c17,fun j => rfl⟩,?_⟩
 rintro _ _ w21 ⟨m,rfl,hm,rfl,e21,hsz,L,hL,hc⟩
 have h21 := h.ext e21
 refine ⟨s,h21.cell,fun hlt => ?_,fun hge => ?_⟩
 ·have hlt' : f + m < X.length := by omega
  obtain ⟨p,hp,hcell⟩ := h21.at_ hlt'
  have hmem := h21.mem hlt'
  have hat := h21.ats _ hmem
  have hkx := hX _ hmem
  rw [Int.toNat_natCast]
  generalize hx : X.getD (f + m) default = x at *
  refine ⟨s,h21.cell,⟨by omega,by omega⟩,p,hp,x.id,x.nm,x.sa,cells3 hcell,?_⟩
  refine CallK.exact (fmtKey (hat.1.row.less (by simp)) hkx hat.2) fun w137 c137 => ⟨x.nm,keyA x.ats,rfl,fun w156 B138 n138 c156 => ?_⟩
  have hL156 := (hL.ext c137).ext c156
  have hcl := countIn_le X (keyOf x) f m
  refine ⟨cntL L (keyOf x),fun w' hE => cntLook (hL156.ext hE) (keyOf x),⟨by rw [hc]; omega,by rw [hc]; omega⟩,?_⟩
  have hg138 := n138.ge
  have hs137 := c137.size
  have hMlt := hM.lt
  have hs17 := c17.size
  refine cntEntry hL156 (keyOf x) (by simp; omega) fun w178 L1 b c178 hL1 hc1 hst => ⟨_,_,rfl,fun w' hE => ?_,fun w214 c214 => ?_⟩
  ·have := cntLook (hL1.ext hE) (keyOf x)
   rw [hc1] at this; exact this
  ·refine cntStore (hL1.ext c214) hst _ (by simp; omega) fun w227 L2 c227 hL2 hc2 => ⟨⟨by omega,by omega⟩,⟨m + 1,by omega,by omega,?_,?_,?_,L2,hL2,fun j => ?_⟩,by dsimp only; omega⟩
   ·rw [firstIn,hx]
    by_cases h1 : x.nm = nm ∧ keyA x.ats = keyA ats
    ·have k1 : keyOf x = (nm,keyA ats) := by rw [keyOf,h1.1,h1.2]
     by_cases h2 : firstIn X (nm,keyA ats) f m < 0
     ·rw [if_pos ⟨h2,k1⟩,decide_eq_true h1,decide_eq_true h2]; rfl
     ·rw [if_neg (fun e => h2 e.1),decide_eq_true h1,decide_eq_false h2]; rfl
    ·have k1 : ¬ keyOf x = (nm,keyA ats) := fun e => h1 ⟨congrArg Prod.fst e,congrArg Prod.snd e⟩
     rw [if_neg (fun e => k1 e.2),decide_eq_false h1]; rfl
   ·have := (((((e21.trans c137).trans c156).mono (G := [BM]) (by simp)).trans c178).trans (c214.mono (by simp))).trans c227
    exact Chg.fresh (Chg.refl _ _) this (by have := c4.size; simp; omega)
   ·have := c156.size; have := c178.size; have := c214.size; have := c227.size; omega
   ·rw [hc2,countIn,hx]
    by_cases hj : j = keyOf x
    ·subst hj; simp [hc]
    ·have : ¬ keyOf x = j := fun e => hj e.symm
     rw [if_neg hj,if_neg this,hc1,hc]; omega
 ·have hme : m = X.length - f := by omega
  have hcnt := hc (nm,keyA ats)
  have hfl := firstIn_le X (nm,keyA ats) f m
  have hcl := countIn_le X (nm,keyA ats) f m
  refine ⟨_,cntLook hL (nm,keyA ats),fun w' => Mod A w w' ∧ w17.heap.size ≤ w'.heap.size ∧ Own [] w' sa 2 79 (ats.map ac) ∧ ∃ s',FL A w' B s' (pushX X (nm,keyA ats)) ∧ (pushX X (nm,keyA ats)).length ≤ X.length ∧ (∀ b ∈ s'.blk,b ∈ s.blk),⟨fun h3 => ?_,fun h3 => ?_⟩,?_⟩
  ·rw [hcnt] at h3
   obtain ⟨i0,hi0⟩ : ∃ i0 : Nat,firstIn X (nm,keyA ats) f m = (i0 : Int) := ⟨(firstIn X (nm,keyA ats) f m).toNat,by omega⟩
   have hpx : pushX X (nm,keyA ats) = X.take i0 ++ X.drop (i0 + 1) := by
    unfold pushX; rw [hfe,← hme,if_pos h3,hi0,Int.toNat_natCast]
   rw [hi0] at hfl ⊢
   have hi : i0 < X.length := by omega
   refine ⟨s,h21.cell,⟨by omega,by omega⟩,?_⟩
   refine Ret.mono (slicesDelete_slot (A := B :: A) (h21.row.cons h21.apart) (sdcs_one X) (by simpa using hi) (by simp; omega)) fun v w254 ⟨c254,s',hv,ho,hbb⟩ => ⟨c254.noTouch _ (fun b hb hm' => ?_),c254.size,s',hv,B,0,73,[s.v],Addr.add_zero' _,h21.box.keep c254 h21.apart,by simp,fun b hb => ?_,fun w259 c259 hB259 => ?_⟩
   ·have := (h.row.blk b hm').2; simp at hb; omega
   ·have := h.box.lt; simp at hb; omega
   have c : Chg (B :: s.blk) w w259 := ((e21.mono (by simp)).trans (c254.mono fun b hb => List.mem_cons_of_mem _ hb)).trans (c259.mono (by simp))
   refine ⟨h.mod c,by have := c254.size; have := c259.size; omega,ha.keep c (h.sa' ha),s',h.next c hB259 ?_ (fun x hx => .inl ?_) ?_,?_⟩
   ·have := (ho.chg c259 (by simp)).less (A' := A) (fun b hb => by simp [hb])
    rw [hpx,List.map_append,List.map_take,List.map_drop]; exact this
   ·rw [hpx] at hx
    rcases List.mem_append.1 hx with hx | hx
    ·exact List.mem_of_mem_take hx
    ·exact List.mem_of_mem_drop hx
   ·rw [hpx,List.length_append,List.length_take,List.length_drop]; omega
   ·exact ⟨by rw [hpx,List.length_append,List.length_take,List.length_drop]; omega,hbb⟩
  ·rw [hcnt] at h3
   have hpx : pushX X (nm,keyA ats) = X := by unfold pushX; rw [hfe,← hme,if_neg h3]
   rw [hpx]; exact ⟨Mod.ext e21,hsz,ha.ext e21,s,h21,Nat.le_refl _,fun _ hb => hb⟩
  ·rintro w250 ⟨m250,hs250,ha250,s1,hF,hlen,hsub⟩ w265 c265
   have hmo : maxLen = 9223372036854775807 := rfl
   have hF' := hF.ext c265
   have hl1 := hF'.len
   have ha265 := ha250.ext c265
   have hsz1 := hF'.row.blk
   refine ⟨s1,hF'.cell,fun a b r W => a = id ∧ b = nm ∧ Own (List.range w265.heap.size) W r 2 79 (ats.map ac),fun a b r W W' hE ⟨h1,h2,h3⟩ => ⟨h1,h2,h3.ext hE⟩,fun W hE => Ret.mono (fmtClone (ha265.ext hE).row hb) fun v W' ⟨c1,r,hv,ho⟩ => ⟨c1,id,nm,r,hv,rfl,rfl,ho.less fun b hb => by have := hE.size; simp at hb ⊢; omega⟩,?_⟩
   intro w292 a b r C2 c292 ⟨ea,eb,ho⟩ hC2 hBx _
   rw [ea,eb] at hBx
   have h292 := hF'.ext c292
   have hs265 := c265.size
   refine App.runK (A := B3 :: B :: A) (us := [sdc ⟨id,nm,ats,false,r⟩]) Tryz.underlying71 ti_125 rfl (by decide) (.inl ((h292.row.cons h292.apart).cons fun hm => ?_)) (fun b hb => ?_) (Row.one (cs := sdc ⟨id,nm,ats,false,r⟩) hBx (by simp)) (by simpa using sdc_one ⟨id,nm,ats,false,r⟩) (by simp) (by simp; omega) (by simp; omega) (by simp) fun s' w314 ho' hc' hb' => ⟨s',rfl,fun w323 c323 w334 c334 => ⟨B,0,73,[s1.v],Addr.add_zero' _,((h292.box.keep hc' (fun hm => h292.apart (Sl.own_blk hm))).ext c323).ext c334,by simp,fun b hb => ?_,fun w343 c343 hB343 => ?_⟩⟩
   ·have := (h.row.blk _ (hsub _ hm)).2; omega
   ·rcases List.mem_cons.1 hb with e | e
    ·rw [e]; have := h292.box.lt; have := c292.size; have := c17.size; omega
    ·rcases List.mem_cons.1 e with e | e
     ·rw [e]; exact h292.box.lt
     ·exact h292.old b e
   ·have := h.box.lt; simp at hb; omega
   have c : Chg (B :: s1.blk) w250 w343 := (((((c265.trans c292).mono (by simp)).trans (hc'.mono fun b hb => List.mem_cons_of_mem _ (Sl.own_blk hb))).trans (c323.mono (by simp))).trans (c334.mono (by simp))).trans (c343.mono (by simp))
   refine ⟨m250.trans (hF.mod c),rfl,s',r,hF.next c hB343 ?_ (fun x hx => ?_) (by simp; omega)⟩
   ·have := (((ho'.ext c323).ext c334).less (A' := B :: A) fun b hb => List.mem_cons_of_mem _ hb).chg c343 (by simp)
    simpa using this.less (A' := A) (fun b hb => by simp [hb])
   ·rcases List.mem_append.1 hx with hx | hx
    ·exact .inl hx
    ·right; simp at hx; subst hx
     refine ⟨?_,hb⟩
     have hd : ∀ b ∈ r.blk,b ∉ s1.own ∧ b ≠ B := fun b hb => by
      have h1 := (ho.blk b hb).1
      refine ⟨fun hm => h1 ?_,fun e => h1 ?_⟩
      ·have := (hsz1 b (Sl.own_blk hm)).2; simpa using this
      ·have := hF'.box.lt; rw [e]; simpa using this
     refine ((((ho.keep hc' fun b hb => (hd b hb).1).ext c323).ext c334).keep c343 fun b hb => by simpa using (hd b hb).2).less fun b hb => ?_
     have := hF'.old b hb; simpa using this
end
section
namespace Ev
open Go.RowKit
section
variable [Tx]
def offK (K : List Nat) (w : World) : List Nat := (List.range w.heap.size).filter fun b => !K.contains b
end
theorem mem_off {K : List Nat} {w : World} {b : Nat} : b ∈ offK K w ↔ b < w.heap.size ∧ b ∉ K := by simp [offK]
section
variable [Tx]
def onK (K : List Nat) (w w' : World) : List Nat := (List.range w'.heap.size).filter fun b => K.contains b || decide (w.heap.size ≤ b)
end
theorem mem_on {K : List Nat} {w w' : World} {b : Nat} : b ∈ onK K w w' ↔ b < w'.heap.size ∧ (b ∈ K ∨ w.heap.size ≤ b) := by simp [onK]
section
variable [Tx]
theorem LsN.off {K : List Nat} {w : World} {B : Nat} {v : List (Nat × Nat)} (h : LsN K w B v) : ∃ (s : Sl) (X : List Sd),FL (offK K w) w B s X ∧ (∀ x ∈ X,x.mar = false ∧ x.ats = [] ∧ ∃ q ∈ nmF,x.nm = q.map UInt8.ofNat) ∧ (X.map fun x => (x.id,x.nm)).Sublist (v.map fun p => ((p.1 : Int),Tx.t p.2)) := by
 obtain ⟨s,X,h1,h2,h3,h4,h5⟩ := h
 exact ⟨s,X,h1.more (fun e => (mem_off.1 e).2 h2) (fun b hb e => (mem_off.1 e).2 (h3 b hb)) (fun x hx b hb e => (mem_off.1 e).2 ((h4 x hx).2.2.1 b hb)) fun b hb => (mem_off.1 hb).1,fun x hx => ⟨(h4 x hx).1,(h4 x hx).2.1,(h4 x hx).2.2.2⟩,h5⟩
theorem LsN.on {K : List Nat} {w w' : World} {B : Nat} {v : List (Nat × Nat)} {s : Sl} {X : List Sd} (hm : Mod (offK K w) w w') (h : FL (offK K w) w' B s X) (hX : ∀ x ∈ X,x.mar = false ∧ x.ats = [] ∧ ∃ q ∈ nmF,x.nm = q.map UInt8.ofNat) (hs : (X.map fun x => (x.id,x.nm)).Sublist (v.map fun p => ((p.1 : Int),Tx.t p.2))) : Chg K w w' ∧ LsN (onK K w w') w' B v := by
 have on : ∀ b,b < w'.heap.size → b ∉ offK K w → b ∈ onK K w w' := fun b hb hn => mem_on.2 ⟨hb,by
  by_cases h1 : w.heap.size ≤ b
  ·exact .inr h1
  ·left
   by_cases h2 : b ∈ K
   ·exact h2
   ·exact absurd (mem_off.2 ⟨by omega,h2⟩) hn⟩
 refine ⟨⟨hm.os,hm.tape,hm.output,hm.size,fun k hk hn => hm.block k hk (mem_off.2 ⟨hk,hn⟩)⟩,s,X,h.less (by simp),on B h.box.lt h.out,fun b hb => ?_,fun x hx => ⟨(hX x hx).1,(hX x hx).2.1,fun b hb => ?_,(hX x hx).2.2⟩,hs⟩
 ·have := h.row.blk b hb
  exact on b this.2 this.1
 ·have := (h.ats x hx).1.blk b hb
  exact on b this.2 this.1
end
theorem pushX_sub (X : List Sd) (k : Str × Str) : (pushX X k).Sublist X := by
 unfold pushX
 split
 ·generalize (firstIn X k (fromAt X X.length) (X.length - fromAt X X.length)).toNat = i
  conv => rhs; rw [← List.take_append_drop i X]
  exact List.Sublist.append (List.Sublist.refl _) (by rw [← List.drop_drop (i := 1) (j := i)]; exact List.drop_sublist _ _)
 ·exact List.Sublist.refl _
section
variable [Tx]
theorem pushL {K : List Nat} {w : World} {B : Nat} {v : List (Nat × Nat)} (h : LsN K w B v) (hv : v.length ≤ 1000) (id n : Nat) (hn : ∃ q ∈ nmF,Tx.t n = q.map UInt8.ofNat) : Calls Tryz.prog 166 #[.pointer (some ⟨B,0,none⟩),.agg #[.int .i64 (id : Int),.string (Bs (Tx.t n)),.slice none 0 0]] w
  (Ret fun u w' => u = .tuple #[] ∧ Chg K w w' ∧ LsN (onK K w w') w' B (v ++ [(id,n)])) := by
 obtain ⟨s,X,h1,h2,h3⟩ := h.off
 have hl := h3.length_le
 simp only [List.length_map] at hl
 refine Ret.mono (fmtPush (sa := Sl.nil) (ats := []) h1 (by omega) (fun x hx => (h2 x hx).2.1) (Own.nil _ _ _ _) (by simp) rfl) fun u w' ⟨hm,hu,s',sa',hF⟩ => ?_
 refine ⟨hu,LsN.on hm hF (fun x hx => ?_) ?_⟩
 ·rcases List.mem_append.1 hx with hx | hx
  ·exact h2 x ((pushX_sub _ _).mem hx)
  ·rw [List.mem_singleton.1 hx]; exact ⟨rfl,rfl,hn⟩
 ·rw [List.map_append,List.map_append]
  exact List.Sublist.append (((pushX_sub _ _).map _).trans h3) (List.Sublist.refl _)
end
theorem sub_init {α β : Type} {f : α → β} {X : List α} {v : List β} {p : β} (h : (X.map f).Sublist (v ++ [p])) : (X.map f).Sublist v ∨ ∃ X0 x,X = X0 ++ [x] ∧ f x = p ∧ (X0.map f).Sublist v := by
 obtain ⟨l1,l2,e,h1,h2⟩ := List.sublist_append_iff.1 h
 rcases List.map_eq_append_iff.1 e with ⟨X0,X1,rfl,rfl,rfl⟩
 match X1,h2 with
 |[],_ => left; simpa using h1
 |[x],h2 =>
  right
  refine ⟨X0,x,rfl,?_,h1⟩
  have := h2.eq_of_length (by simp)
  simpa using this
 |x :: y :: r,h2 => have := h2.length_le; simp at this
section
variable [Tx]
theorem rem_last {X : List Sd} {v0 : List (Nat × Nat)} {id n : Nat} (h : (X.map fun x => (x.id,x.nm)).Sublist ((v0 ++ [(id,n)]).map fun p => ((p.1 : Int),Tx.t p.2))) (hid : ∀ p ∈ v0,p.1 ≠ id) :
  (placeAt X id 0 < 0 → (∀ x ∈ X,x.mar = false) → (X.map fun x => (x.id,x.nm)).Sublist (v0.map fun p => ((p.1 : Int),Tx.t p.2))) ∧
  (0 ≤ placeAt X id 0 → ∃ X0 x,X = X0 ++ [x] ∧ x.id = (id : Int) ∧ x.nm = Tx.t n ∧ remAt X (placeAt X id 0) = X0 ∧ (X0.map fun x => (x.id,x.nm)).Sublist (v0.map fun p => ((p.1 : Int),Tx.t p.2))) := by
 rw [List.map_append] at h
 have hs := sub_init h
 have nid : ∀ Y : List Sd,(Y.map fun x => (x.id,x.nm)).Sublist (v0.map fun p => ((p.1 : Int),Tx.t p.2)) → ∀ x ∈ Y,x.id ≠ (id : Int) := fun Y hY x hx e => by
  have := hY.mem (List.mem_map_of_mem hx)
  obtain ⟨p,hp,e2⟩ := List.mem_map.1 this
  have e3 : (p.1 : Int) = x.id := congrArg Prod.fst e2
  exact hid p hp (by rw [e] at e3; exact_mod_cast e3)
 rcases placeAt_spec X id 0 with ⟨e,hn⟩ | ⟨j,e,hj,hm,hi,hb⟩
 ·refine ⟨fun _ ha => ?_,fun h0 => ?_⟩
  ·rcases hs with hs | ⟨X0,x,rfl,e2,hs⟩
   ·exact hs
   ·have hx : x ∈ X0 ++ [x] := by simp
    exact absurd ⟨ha x hx,congrArg Prod.fst e2⟩ (hn x hx)
  ·rw [show ((0 : Nat) : Int) = 0 from rfl] at e; omega
 ·rw [show ((0 : Nat) : Int) = 0 from rfl,Nat.zero_add] at e
  refine ⟨fun h0 => by omega,fun _ => ?_⟩
  have hg : X.getD j default = X[j] := by rw [List.getD_eq_getElem?_getD,List.getElem?_eq_getElem hj]; rfl
  rw [hg] at hi
  rcases hs with hs | ⟨X0,x,rfl,e2,hs⟩
  ·exact absurd hi (nid X hs _ (List.getElem_mem hj))
  ·have hjl : j = X0.length := by
    rcases Nat.lt_or_ge j X0.length with h1 | h1
    ·rw [List.getElem_append_left h1] at hi
     exact absurd hi (nid X0 hs _ (List.getElem_mem h1))
    ·simp at hj; omega
   refine ⟨X0,x,rfl,congrArg Prod.fst e2,congrArg Prod.snd e2,?_,hs⟩
   rw [e,remAt,if_pos (by omega),Int.toNat_natCast,hjl]
   simp
end
theorem last_of {X0 : List Sd} {x : Sd} (hm : x.mar = false) : lastIn (X0 ++ [x]) x.nm (fromAt (X0 ++ [x]) (X0 ++ [x]).length) (X0 ++ [x]).length = some X0.length := by
 have hl : (X0 ++ [x]).length = X0.length + 1 := by simp
 have hg : (X0 ++ [x]).getD X0.length default = x := by simp [List.getD_eq_getElem?_getD]
 rw [hl,lastIn,hg,fromAt,hg,hm]
 have := fromAt_le (X0 ++ [x]) X0.length
 simp [this]
section
variable [Tx]
theorem popL {K : List Nat} {w : World} {B : Nat} {v0 : List (Nat × Nat)} {id n : Nat} (h : LsN K w B (v0 ++ [(id,n)])) (hid : ∀ p ∈ v0,p.1 ≠ id) : Calls Tryz.prog 165 #[.pointer (some ⟨B,0,none⟩),.int .i64 (id : Int)] w
  (Ret fun u w' => (∃ b,u = .bool b) ∧ Chg K w w' ∧ LsN (onK K w w') w' B v0) := by
 obtain ⟨s,X,h1,h2,h3⟩ := h.off
 have hrem := rem_last h3 hid
 refine Ret.mono (fmtRemove h1 id) fun u w' ⟨hm,hu,s',hF⟩ => ⟨⟨_,hu⟩,LsN.on hm hF (fun x hx => ?_) ?_⟩
 ·by_cases h0 : 0 ≤ placeAt X id 0
  ·obtain ⟨X0,x',rfl,_,_,hr,_⟩ := hrem.2 h0
   rw [hr] at hx
   exact h2 x (by simp [hx])
  ·rw [remAt,if_neg h0] at hx
   exact h2 x hx
 ·by_cases h0 : 0 ≤ placeAt X id 0
  ·obtain ⟨X0,x',_,_,_,hr,hs⟩ := hrem.2 h0
   rw [hr]; exact hs
  ·rw [remAt,if_neg h0]
   exact hrem.1 (by omega) fun x hx => (h2 x hx).1
theorem LsN.wide {K : List Nat} {w : World} {B : Nat} {v v' : List (Nat × Nat)} (h : LsN K w B v) (hs : (v.map fun p => ((p.1 : Int),Tx.t p.2)).Sublist (v'.map fun p => ((p.1 : Int),Tx.t p.2))) : LsN K w B v' := by
 obtain ⟨s,X,h1,h2,h3,h4,h5⟩ := h
 exact ⟨s,X,h1,h2,h3,h4,h5.trans hs⟩
theorem LsN.drop {K : List Nat} {w : World} {B : Nat} {v : List (Nat × Nat)} {p : Nat × Nat} (h : LsN K w B (v ++ [p])) (hn : ∀ q ∈ nmF,Tx.t p.2 ≠ q.map UInt8.ofNat) : LsN K w B v := by
 obtain ⟨s,X,h1,h2,h3,h4,h5⟩ := h
 refine ⟨s,X,h1,h2,h3,h4,?_⟩
 rw [List.map_append] at h5
 rcases sub_init h5 with h6 | ⟨X0,x,rfl,e,_⟩
 ·exact h6
 ·obtain ⟨q,hq,e2⟩ := (h4 x (by simp)).2.2.2
  exact absurd ((congrArg Prod.snd e).symm.trans e2) (hn q hq)
end
end Ev
end
section
namespace Ev
open Go.RowKit
structure Opn (w : World) (bb y off cap n : Nat) (ps ids : Nat → Nat) (LB : Nat) : Prop where
 op : w.cell? ((⟨bb,0,none⟩ : Addr).add 3) = some (Sl.v ⟨some ⟨y,off,none⟩,n,cap⟩)
 li : w.cell? ((⟨bb,0,none⟩ : Addr).add 4) = some (.pointer (some ⟨LB,0,none⟩))
 nd : ∀ j,j < n → w.cell? ((⟨y,off,none⟩ : Addr).add (j * 1)) = some (.pointer (some ⟨ps j,0,none⟩))
 no : ∀ j,j < n → w.cell? ((⟨ps j,0,none⟩ : Addr).add 0) = some (.int .i64 (ids j : Int))
 few : n ≤ 100000
variable {w w' : World} {bb y off cap n LB : Nat} {ps ids : Nat → Nat}
theorem Opn.ext (h : Opn w bb y off cap n ps ids LB) (c : Ext w w') : Opn w' bb y off cap n ps ids LB :=
 ⟨Ext.cell c h.op,Ext.cell c h.li,fun j hj => Ext.cell c (h.nd j hj),fun j hj => Ext.cell c (h.no j hj),h.few⟩
theorem bAt1 {C q : Nat} {x id : Int} (hq : w.cell? ((⟨q,0,none⟩ : Addr).add 0) = some (.int .i64 x)) (hC : w.cell? ⟨C,0,none⟩ = some (.int .i64 id)) : Calls Tryz.prog 131 #[.pointer (some ⟨q,0,none⟩),.pointer (some ⟨C,0,none⟩)] w
  (Ret fun v w' => Ext w w' ∧ v = .bool (decide (x = id))) := by
 refine build_builder_at_1.ok _ _ ?_
 unfold build_builder_at_1.vc
 exact fun w4 c4 => ⟨x,Ext.cell c4 hq,id,Ext.cell c4 hC,fun w7 c7 => ⟨c4.trans c7,rfl⟩⟩
theorem bAtBody : Body Tryz.prog 131 := ⟨_,Tryz.func131,by decide +kernel,rfl⟩
theorem bAt (h : Opn w bb y off cap n ps ids LB) {k : Nat} (hk : k < n) (hlt : ∀ j,j < k → ids j ≠ ids k) : Calls Tryz.prog 101 #[.pointer (some ⟨bb,0,none⟩),.int .i64 (ids k : Int)] w
  (Ret fun v w' => Ext w w' ∧ v = .int .i64 (k : Int)) := by
 refine build_builder_at.ok _ _ ?_
 unfold build_builder_at.vc
 intro w4 C hN c4
 have h4 := h.ext c4
 refine ⟨_,h4.op,fun hB => CallK.exact (v0 := .int .i64 (k : Int)) ?_ fun w9 c9 => ⟨_,rfl,c4.trans c9,rfl⟩⟩
 refine slices_IndexFunc__build_node_build_node_.ok _ _ ?_
 unfold slices_IndexFunc__build_node_build_node_.vc
 have hf := h.few
 refine ⟨fun i w' => ∃ j : Nat,i = (j : Int) ∧ j ≤ k ∧ Ext w4 w',fun i _ => n - i.toNat,⟨0,rfl,by omega,Chg.refl _ _⟩,?_⟩
 rintro _ w6 ⟨j,rfl,hj,hE⟩
 rw [Int.toNat_natCast]
 have h6 := h4.ext hE
 refine ⟨fun hi => ?_,fun hi => absurd (show (j : Int) < (n : Int) by omega) hi⟩
 refine ⟨⟨by omega,hi⟩,_,rfl,_,h6.nd j (by omega),131,#[],#[.pointer (some ⟨C,0,none⟩)],rfl,bAtBody,CallK.exact (bAt1 (h6.no j (by omega)) (Ext.cell hE (hB.cell 0 _ rfl))) fun w2 hE2 => ⟨_,rfl,fun hx => ⟨hE.trans hE2,?_⟩,fun hx => ⟨⟨by omega,by omega⟩,⟨j + 1,by omega,?_,hE.trans hE2⟩,by dsimp only; omega⟩⟩⟩
 ·have e : (ids j : Int) = ids k := of_decide_eq_true hx
  rcases Nat.lt_or_ge j k with h1 | h1
  ·exact absurd (by exact_mod_cast e) (hlt j h1)
  ·have : j = k := by omega
   rw [this]
 ·have e : ¬ (ids j : Int) = ids k := of_decide_eq_false hx
  rcases Nat.lt_or_ge j k with h1 | h1
  ·omega
  ·have : j = k := by omega
   subst this; exact absurd rfl e
theorem bCur (h : Opn w bb y off cap n ps ids LB) (hn : 0 < n) : Calls Tryz.prog 58 #[.pointer (some ⟨bb,0,none⟩)] w
  (Ret fun v w' => Ext w w' ∧ v = .pointer (some ⟨ps (n - 1),0,none⟩)) := by
 refine build_builder_current.ok _ ?_
 unfold build_builder_current.vc
 have hf := h.few
 refine ⟨_,h.op,fun e => ?_,fun _ w7 c7 => ?_⟩
 ·have e : (n : Int) = 0 := e
  omega
 ·have h7 := h.ext c7
  have e : ((n : Int) - 1).toNat = n - 1 := by omega
  refine ⟨_,h7.op,_,h7.op,⟨by dsimp only; omega,by dsimp only; omega⟩,_,⟨⟨by dsimp only; omega,by dsimp only; omega⟩,rfl⟩,_,?_,fun w12 c12 => ⟨c7.trans c12,rfl⟩⟩
  show w7.cell? ((⟨y,off,none⟩ : Addr).add (((n : Int) - 1).toNat * 1)) = _
  rw [e]; exact h7.nd _ (by omega)
theorem bFar (h : Opn w bb y off cap n ps ids LB) (hn : 0 < n) : Calls Tryz.prog 168 #[.pointer (some ⟨bb,0,none⟩),.int .i64 ((n - 1 : Nat) : Int)] w
  (Ret fun v w' => Ext w w' ∧ v = .int .i64 (-1)) := by
 refine build_builder_further.ok _ _ ?_
 unfold build_builder_further.vc
 have hf := h.few
 refine ⟨⟨by omega,by omega⟩,fun i w' => i = (n : Int) ∧ w' = w,fun _ _ => 0,⟨by omega,rfl⟩,?_⟩
 rintro _ _ ⟨rfl,rfl⟩
 exact ⟨_,h.op,fun hlt => absurd hlt (by dsimp only; omega),fun _ => ⟨Chg.refl _ _,rfl⟩⟩
theorem bPop (h : Opn w bb y off cap n ps ids LB) (hn : 0 < n) {T : TypeId} {cs : List Value} (hb : Box w bb T cs) (hl : 4 ≤ cs.length) (hc : n ≤ cap) : Calls Tryz.prog 62 #[.pointer (some ⟨bb,0,none⟩),.int .i64 1] w
  (Ret fun v w' => v = .tuple #[] ∧ Chg [bb] w w' ∧ Box w' bb T (putAt cs 3 [.slice (some ⟨y,off,none⟩) (n - 1) cap])) := by
 refine build_builder_pop.ok _ _ ?_
 unfold build_builder_pop.vc
 have hf := h.few
 intro w3 c3
 have h3 := h.ext c3
 have e : (max 0 ((n : Int) - 1)).toNat = n - 1 := by omega
 refine ⟨_,h3.op,_,h3.op,⟨by dsimp only; omega,by dsimp only; omega⟩,⟨by dsimp only; omega,by dsimp only; omega⟩,fun w6 c6 => ⟨bb,3,T,cs,Addr.add_lit ..,(hb.ext c3).ext c6,by omega,by simp,fun w11 c11 hB => ⟨rfl,((c3.trans c6).mono (by simp)).trans c11,?_⟩⟩⟩
 rw [show Sl.v (Sl.cut ⟨some ⟨y,off,none⟩,n,cap⟩ 1 0 (max 0 ((n : Int) - 1)).toNat cap) = .slice (some ⟨y,off,none⟩) (n - 1) cap by rw [e]; unfold Sl.cut Sl.v; simp [Addr.add_zero']] at hB
 exact hB
theorem bHeld (h : Opn w bb y off cap n ps ids LB) (hd : ∀ j k,j < k → k < n → ids j ≠ ids k) {A : List Nat} {s : Sl} {X : List Sd} (hF : FL A w LB s X) {m : Nat} (hm : m < X.length) {k : Nat} (hk : k < n) (hi : (X.getD m default).id = (ids k : Int)) :
  Calls Tryz.prog 137 #[.pointer (some ⟨bb,0,none⟩),.int .i64 (m : Int)] w (Ret fun v w' => Ext w w' ∧ v = .bool true) := by
 refine build_builder_held.ok _ _ ?_
 unfold build_builder_held.vc
 refine ⟨_,h.li,CallK.ext (fmtAt hF hm) fun v w7 c7 ⟨sa',hv⟩ => ?_⟩
 rw [hi] at hv
 refine ⟨_,_,sa',_,hv,fun w10 B8 _ c10 => ⟨(k : Int),fun _ => bAt ((h.ext c7).ext c10) hk fun j hj => hd j k hj hk,fun w13 c13 => ⟨(c7.trans c10).trans c13,?_⟩⟩⟩
 simp
theorem bRebuild (h : Opn w bb y off cap n ps ids LB) (hd : ∀ j k,j < k → k < n → ids j ≠ ids k) {A : List Nat} {s : Sl} {X : List Sd} (hF : FL A w LB s X) (ho : ∀ x ∈ X,∃ k,k < n ∧ x.id = (ids k : Int)) :
  Calls Tryz.prog 114 #[.pointer (some ⟨bb,0,none⟩)] w (Ret fun v w' => Ext w w' ∧ v = .tuple #[]) := by
 refine build_builder_rebuild.ok _ ?_
 unfold build_builder_rebuild.vc
 have hf := hF.few
 refine ⟨_,h.li,CallK.exact (fmtLen hF) fun w4 c4 => ⟨_,rfl,fun i w' => i = (X.length : Int) ∧ Ext w w',fun _ _ => 0,⟨rfl,c4⟩,?_⟩⟩
 rintro _ w7 ⟨rfl,c7⟩
 refine ⟨fun _ => ⟨by omega,by omega⟩,true,fun h0 => ?_,fun w15 c15 => ⟨fun hx => absurd hx.2 (by simp),fun _ => ?_⟩⟩
 ·have hl : X.length - 1 < X.length := by omega
  obtain ⟨k,hk,hi⟩ := ho _ (hF.mem hl)
  have e : ((X.length : Nat) : Int) - 1 = ((X.length - 1 : Nat) : Int) := by omega
  rw [e]
  exact bHeld (h.ext c7) hd (hF.ext c7) hl hk hi
 ·refine ⟨fun i w' => i = (X.length : Int) ∧ Ext w w',fun _ _ => 0,⟨rfl,c7.trans c15⟩,?_⟩
  rintro _ w20 ⟨rfl,c20⟩
  exact ⟨_,(h.ext c20).li,CallK.exact (fmtLen (hF.ext c20)) fun w43 c43 => ⟨_,rfl,fun hlt => absurd hlt (by omega),fun _ => ⟨c20.trans c43,rfl⟩⟩⟩
section
variable [Tx]
theorem bAdopt (h : Opn w bb y off cap n ps ids LB) (hn : 0 < n) (hd : ∀ j k,j < k → k < n → ids j ≠ ids k) {T : TypeId} {cs : List Value} (hb : Box w bb T cs) (hl : 4 ≤ cs.length) (hc : n ≤ cap)
  {m : Nat} (hnm : w.cell? ((⟨ps (n - 1),0,none⟩ : Addr).add 2) = some (.string (Bs (Tx.t m)))) {K : List Nat} {v0 : List (Nat × Nat)} (hL : LsN K w LB (v0 ++ [(ids (n - 1),m)])) (hK : ∀ k ∈ K,k < w.heap.size) (hid : ∀ p ∈ v0,p.1 ≠ ids (n - 1)) (hbK : bb ∉ K) :
  Calls Tryz.prog 147 #[.pointer (some ⟨bb,0,none⟩),.string (Bs (Tx.t m))] w
   (Ret fun v w' => v = .tuple #[] ∧ ∃ w1,Chg [bb] w w1 ∧ Box w1 bb T (putAt cs 3 [.slice (some ⟨y,off,none⟩) (n - 1) cap]) ∧ Chg K w1 w' ∧ ∃ K',LsN K' w' LB v0 ∧ ∀ k ∈ K',k < w'.heap.size ∧ (k ∈ K ∨ w1.heap.size ≤ k)) := by
 obtain ⟨s,X,g1,g2,g3,g4,hsub⟩ := hL
 have hF : FL (offK K w) w LB s X := g1.more (fun e => (mem_off.1 e).2 g2) (fun b hb e => (mem_off.1 e).2 (g3 b hb)) (fun x hx b hb e => (mem_off.1 e).2 ((g4 x hx).2.2.1 b hb)) fun b hb => (mem_off.1 hb).1
 have hrem := rem_last hsub hid
 refine build_builder_adopt.ok _ _ ?_
 unfold build_builder_adopt.vc
 have hf := h.few
 have hbl := hb.lt
 refine CallK.exact (bCur h hn) fun w4 c4 => ⟨_,rfl,fun w6 c6 => ?_⟩
 have c06 := c4.trans c6
 have h6 := h.ext c06
 refine ⟨_,rfl,Tx.t m,Ext.cell c06 hnm,_,fun _ => h6.li,_,fun _ => rfl,_,fun _ => h6.no (n - 1) (by omega),placeAt X (ids (n - 1)) 0,fun _ w' hE => fmtPlace ((hF.ext c06).ext hE) _,fun hA w19 c19 => ?_,fun hB w19 c19 => ?_⟩
 ·have c09 := c06.trans c19
  refine CallK.chg (F := [bb]) (R := fun v w' => v = .tuple #[] ∧ Box w' bb T (putAt cs 3 [.slice (some ⟨y,off,none⟩) (n - 1) cap])) (Ret.mono (bPop (h.ext c09) hn (hb.ext c09) hl hc) fun v w' ⟨a,b,c⟩ => ⟨b,a,c⟩) (by simp) fun v w21 c21 ⟨hv,hB⟩ => ⟨hv,rfl,w21,(c09.mono (by simp)).trans c21,hB,Chg.refl _ _,K,?_,fun k hk => ⟨?_,.inl hk⟩⟩
  ·have hl0 : LsN K w LB v0 := ⟨s,X,g1,g2,g3,g4,hrem.1 hA.2 fun x hx => (g4 x hx).1⟩
   exact (hl0.chg c09 (by simp)).chg c21 (by simpa using hbK)
  ·exact Nat.lt_of_lt_of_le (hK k hk) (Nat.le_trans c09.size c21.size)
 ·have h0 : 0 ≤ placeAt X (ids (n - 1)) 0 := by
   rcases hB with hB | hB
   ·exact absurd rfl hB
   ·omega
  obtain ⟨X0,x,rfl,hxi,hxn,hrm,hs0⟩ := hrem.2 h0
  have hxm : x.mar = false := (g4 x (by simp)).1
  have c09 := c06.trans c19
  refine ⟨fun i w' => i = 0 ∧ w' = w19,fun _ _ => 0,⟨rfl,rfl⟩,?_⟩
  rintro _ _ ⟨rfl,rfl⟩
  refine ⟨fun _ => ?_,fun h8 => absurd (show (0 : Int) < 8 by decide) h8⟩
  refine ⟨_,(h.ext c09).li,CallK.ext (fmtLast (hF.ext c09) (Tx.t m)) fun v w105 c105 hv => ?_⟩
  rw [← hxn,last_of hxm] at hv
  have hg : (X0 ++ [x]).getD X0.length default = x := by simp [List.getD_eq_getElem?_getD]
  obtain ⟨sa',hv⟩ := hv
  rw [hg,hxi] at hv
  refine ⟨_,_,sa',_,hv,fun e => absurd e (by decide),fun _ w108 B106 n106 c108 => ?_⟩
  have c0 := (c09.trans c105).trans c108
  have hB6 : B106 ≠ bb := by have := n106.ge; have := (c09.trans c105).size; omega
  have hi : ((n - 1 : Nat) : Int) + 1 = (n : Int) := by omega
  refine CallK.exact (bAt (h.ext c0) (k := n - 1) (by omega) fun j hj => hd j _ hj (by omega)) fun w114 c114 => ⟨_,rfl,fun hlt => absurd hlt (by omega),fun _ => ?_⟩
  have c1 := c0.trans c114
  refine ⟨_,(h.ext c1).op,⟨by omega,by omega⟩,⟨by omega,by dsimp only; omega⟩,fun i w' => i = 0 ∧ w' = w114,fun _ _ => 0,⟨rfl,rfl⟩,?_⟩
  rintro _ _ ⟨rfl,rfl⟩
  refine ⟨fun hlt => ?_,fun _ => ?_⟩
  ·exfalso
   have : (Sl.cut ⟨some ⟨y,off,none⟩,n,cap⟩ 1 (((n - 1 : Nat) : Int) + 1).toNat n cap).n = 0 := by
    rw [hi]; unfold Sl.cut; simp
   rw [this] at hlt; omega
  refine CallK.exact (bFar (h.ext c1) hn) fun w151 c151 => ⟨_,rfl,fun _ => ?_,fun hx => absurd (show (-1 : Int) < 0 by decide) hx⟩
  have c2 := c1.trans c151
  have e1 : ((n : Nat) : Int) - ((n - 1 : Nat) : Int) = 1 := by omega
  refine ⟨_,(h.ext c2).op,⟨by dsimp only; omega,by dsimp only; omega⟩,?_⟩
  dsimp only
  rw [e1]
  refine CallK.chg (F := [bb]) (R := fun v w' => v = .tuple #[] ∧ Box w' bb T (putAt cs 3 [.slice (some ⟨y,off,none⟩) (n - 1) cap])) (Ret.mono (bPop (h.ext c2) hn (hb.ext c2) hl hc) fun v w' ⟨a,b,c⟩ => ⟨b,a,c⟩) (by simpa using hB6) fun v w155 c155 ⟨hv5,hB5⟩ => ⟨hv5,fun w157 c157 => ?_⟩
  have c3 : Chg [bb] w w155 := (c2.mono (by simp)).trans c155
  have hli : w155.cell? ((⟨bb,0,none⟩ : Addr).add 4) = some (.pointer (some ⟨LB,0,none⟩)) := by
   have h1 := h.li
   rw [Addr.add_lit] at h1 ⊢
   have h2 : cs[0 + 4]? = some (.pointer (some ⟨LB,0,none⟩)) := by
    have h3 := Lib.cell_of_heap (show w.heap[bb]? = some (.cells cs.toArray T (0,0)) from hb) (0 + 4)
    rw [h1] at h3
    simpa using h3.symm
   refine hB5.cell (0 + 4) _ ?_
   rw [putAt_get _ cs 3 (0 + 4) (by simp; omega),if_neg (by simp)]
   exact h2
  refine ⟨_,Ext.cell c157 hli,fun w159 c159 => ?_⟩
  have c59 := c157.trans c159
  have hL9 : LsN K w159 LB (v0 ++ [(ids (n - 1),m)]) := ((show LsN K w LB _ from ⟨s,_,g1,g2,g3,g4,hsub⟩).chg c3 (by simpa using hbK)).chg c59 (by simp)
  refine Ret.mono (popL hL9 hid) fun u w161 ⟨⟨b,hu⟩,hc6,hl6⟩ => ⟨?_,hc6.size,b,hu,rfl,w155,c3,hB5,(c59.mono (by simp)).trans hc6,_,hl6,fun k hk => ?_⟩
  ·refine Chg.noTouch hc6 _ fun b hb hk => ?_
   simp at hb; subst hb
   have := hK _ hk; have := n106.ge; have := (c09.trans c105).size; omega
  ·obtain ⟨k1,k2⟩ := mem_on.1 hk
   exact ⟨k1,k2.imp id fun e => Nat.le_trans c59.size e⟩
end
end Ev
end
section
namespace Ev
set_option autoImplicit false
open Go.RowKit
noncomputable section
def splitW (s : List Nat) : List (List Nat) := List.rec (fun cur => match cur with | [] => [] | _ => [cur.reverse]) (fun x _ ih cur => cond (Nat.beq x 32) (match cur with | [] => ih [] | _ => cur.reverse :: ih []) (ih (x :: cur))) s []
def asked : List (List Nat) := [[98,97,115,101,32,108,105,110,107,32,109,101,116,97,32,116,105,116,108,101,32,115,116,121,108,101,32,115,99,114,105,112,116,32,110,111,102,114,97,109,101,115],
 [97,100,100,114,101,115,115,32,97,114,116,105,99,108,101,32,97,115,105,100,101,32,98,108,111,99,107,113,117,111,116,101,32,99,101,110,116,101,114,32,100,101,116,97,105,108,115,32,100,105,114,32,100,105,118,32,100,108,32,102,105,101,108,100,115,101,116,32,102,105,103,99,97,112,116,105,111,110,32,102,105,103,117,114,101,32,102,111,111,116,101,114,32,102,111,114,109,32,104,101,97,100,101,114,32,104,103,114,111,117,112,32,109,97,105,110,32,109,101,110,117,32,110,97,118,32,111,108,32,112,114,101,32,115,101,97,114,99,104,32,115,101,99,116,105,111,110,32,115,117,109,109,97,114,121,32,117,108],
 [97,112,112,108,101,116,32,99,97,112,116,105,111,110,32,116,100,32,116,104,32,109,97,114,113,117,101,101,32,111,98,106,101,99,116],[104,49,32,104,50,32,104,51,32,104,52,32,104,53,32,104,54],[97,32,98,32,98,105,103,32,99,111,100,101,32,101,109,32,102,111,110,116,32,105,32,110,111,98,114,32,115,32,115,109,97,108,108,32,115,116,114,105,107,101,32,115,116,114,111,110,103,32,116,116,32,117],[100,100,32,100,116,32,108,105,32,111,112,116,105,111,110,32,112,32,114,112,32,114,116],
 [97,100,100,114,101,115,115,32,97,112,112,108,101,116,32,97,114,101,97,32,97,114,116,105,99,108,101,32,97,115,105,100,101,32,98,97,115,101,32,98,108,111,99,107,113,117,111,116,101,32,98,111,100,121,32,98,114,32,98,117,116,116,111,110,32,99,97,112,116,105,111,110,32,99,101,110,116,101,114,32,99,111,108,32,99,111,108,103,114,111,117,112,32,100,100,32,100,101,116,97,105,108,115,32,100,105,114,32,100,105,118,32,100,108,32,100,116,32,101,109,98,101,100,32,102,105,101,108,100,115,101,116,32,102,105,103,99,97,112,116,105,111,110,32,102,105,103,117,114,101,32,102,111,111,116,101,114,32,102,111,114,109,32,104,49,32,104,50,32,104,51,32,104,52,32,104,53,32,104,54,32,104,101,97,100,32,104,101,97,100,101,114,32,104,103,114,111,117,112,32,104,114,32,104,116,109,108,32,105,102,114,97,109,101,32,105,109,103,32,105,110,112,117,116,32,108,105,32,108,105,110,107,32,109,97,105,110,32,109,97,114,113,117,101,101,32,109,101,110,117,32,109,101,116,97,32,110,97,118,32,110,111,101,109,98,101,100,32,110,111,102,114,97,109,101,115,32,111,98,106,101,99,116,32,111,108,32,112,32,112,97,114,97,109,32,112,114,101,32,115,99,114,105,112,116,32,115,101,97,114,99,104,32,115,101,99,116,105,111,110,32,115,101,108,101,99,116,32,115,111,117,114,99,101,32,115,116,121,108,101,32,115,117,109,109,97,114,121,32,116,97,98,108,101,32,116,98,111,100,121,32,116,100,32,116,101,120,116,97,114,101,97,32,116,102,111,111,116,32,116,104,32,116,104,101,97,100,32,116,105,116,108,101,32,116,114,32,116,114,97,99,107,32,117,108,32,119,98,114,32,120,109,112],
 [97,112,112,108,101,116,32,109,97,114,113,117,101,101,32,111,98,106,101,99,116]]
def spF (f : Nat) (vs : List AV) (H : AH) : Option (AV × AH) := cond (Nat.beq f 155) (match vs with
 |[.c (.s s)] => cond (inL s asked) (match splitW s with | l => some (.c (.sl (some (H.nx,0)) l.length l.length 1),H.new 9 (l.map AC.s))) none
 |_ => none) none
theorem asked_ok : (asked.all fun s => ((s.map UInt8.ofNat).all fun b => decide (b.toNat < 128)) && decide (s.length ≤ 1000000) && decide ((Lib.fields (s.map UInt8.ofNat)).map (fun l => l.map UInt8.toNat) = splitW s)) = true := by decide +kernel
theorem inL_mem {s : List Nat} : ∀ {l : List (List Nat)},inL s l = true → s ∈ l
 |[],h => by cases h
 |x :: l,h => by
  replace h : cond (leqL x s) true (inL s l) = true := h
  cases hb : leqL x s with
  |true =>
   rw [leqL_eq] at hb
   rw [of_decide_eq_true hb]; exact List.mem_cons_self ..
  |false => rw [hb] at h; exact List.mem_cons_of_mem _ (inL_mem h)
theorem WP.ext {w w' : World} (h : WP w) (c : Ext w w') : WP w' := by
 have hg : Tryz.prog.globalNamed "strings.asciiSpace" = some 0 := by kernel_rfl
 unfold WP Lib.TabIs World.var? at h ⊢
 rw [hg] at h ⊢
 simp only [Option.bind_some] at h ⊢
 have hlt : 0 < w.heap.size := by
  rcases Nat.lt_or_ge 0 w.heap.size with h' | h'
  ·exact h'
  ·rw [Array.getElem?_eq_none h'] at h; cases h
 rw [c.block _ hlt (by simp)]
 exact h
section
variable [Tx]
theorem HR.table {E : En} {H : AH} {w0 : W0} {w : World} (h : HR E H w0 w) : WP w := by
 have hw := h.wp.1
 have hg : Tryz.prog.globalNamed "strings.asciiSpace" = some 0 := by kernel_rfl
 unfold WP Lib.TabIs World.var? at hw ⊢
 rw [hg] at hw ⊢
 simp only [Option.bind_some] at hw ⊢
 have hlt : 0 < w0.w.heap.size := by
  rcases Nat.lt_or_ge 0 w0.w.heap.size with h' | h'
  ·exact h'
  ·rw [Array.getElem?_eq_none h'] at hw; cases hw
 rw [h.ch.block _ hlt h.wp.2]
 exact hw
theorem spF_ok (G : Nat) : RunOk Tryz.prog G spF := by
 intro f vs H H' v h
 replace h : cond (Nat.beq f 155) (match (generalizing := false) vs with
  |[.c (.s s)] => cond (inL s asked) (match splitW s with | l => some (AV.c (.sl (some (H.nx,0)) l.length l.length 1),H.new 9 (l.map AC.s))) none
  |_ => none) none = some (v,H') := h
 cases hb : Nat.beq f 155 with
 |false => rw [hb] at h; cases h
 |true =>
  rw [hb] at h
  have hf := Nat.eq_of_beq_eq_true hb
  subst hf
  replace h : (match (generalizing := false) vs with
   |[.c (.s s)] => cond (inL s asked) (match splitW s with | l => some (AV.c (.sl (some (H.nx,0)) l.length l.length 1),H.new 9 (l.map AC.s))) none
   |_ => none) = some (v,H') := h
  split at h
  ·rename_i s
   obtain ⟨hin,h⟩ := cond_some h
   injection h with h1 h2; subst h1; subst h2
   refine ⟨⟨_,Tryz.func155,by decide +kernel,rfl⟩,fun {E w0 w args} hG hH hA => ?_⟩
   have hall := List.all_eq_true.1 asked_ok s (inL_mem hin)
   simp only [Bool.and_eq_true,decide_eq_true_eq] at hall
   obtain ⟨⟨a1,a2⟩,a3⟩ := hall
   refine ⟨⟨Nat.le_succ _,fun b hb _ => (AH.get_push _ _ _).trans (if_neg (Nat.ne_of_lt hb))⟩,?_⟩
   match args,hA with
   |[u],.cons hu .nil =>
    obtain ⟨rfl,hby⟩ := hu
    have hT : WP w := hH.table
    have hsz : (Bs (s.map UInt8.ofNat)).size = s.length := by rw [Bs_size]; simp
    refine (Tryz.strings_Fields (Bs (s.map UInt8.ofNat)) w (by rw [hsz]; omega) (fun j b hb => ?_) hT).mono fun e w' ⟨he,hw⟩ => ?_
    ·rw [Bs_data] at hb
     have := List.all_eq_true.1 a1 b (List.mem_of_getElem? hb)
     simpa using this
    ·subst he hw
     rw [Bs_data]
     generalize Lib.fields (s.map UInt8.ofNat) = fl at a3 ⊢
     rw [← a3]
     have hv : ACs E ((fl.map fun l => l.map UInt8.toNat).map AC.s) (fl.map fun l => Value.string ⟨l.toArray⟩) := by
      clear a3
      induction fl with
      |nil => exact .nil
      |cons l r ih =>
       refine .cons ⟨?_,fun n hn => ?_⟩ ih
       ·have e : (l.map UInt8.toNat).map UInt8.ofNat = l := by
         rw [List.map_map]
         conv => rhs; rw [← List.map_id l]
         apply List.map_congr_left
         intro b _
         simp
        rw [e]; rfl
       ·obtain ⟨b,_,rfl⟩ := List.mem_map.1 hn
        exact b.toNat_lt
     have hE := hH.free
     have hp := hH.push (o := .cells 9 ((fl.map fun l => l.map UInt8.toNat).map AC.s) .own) fun _ _ _ _ h => (by cases h)
     have key := hp.real (T' := 9) ((AH.get_push _ _ _).trans (if_pos rfl)) hE (Ext.alloc w (.cells (fl.map fun l => Value.string ⟨l.toArray⟩).toArray 9 (0,0))) (Nat.le_refl _) (Box.alloc w 9 _) (Pre.all2 hv)
     refine ⟨E.add H.nx w.heap.size _,En.le_add hE,fun b p hb => ?_,key,w.heap.size,_,0,fl.length,En.add_same _ _ _ _,?_,?_,?_,.inr rfl,?_⟩
     ·by_cases hbn : b = H.nx
      ·subst hbn; exact .inr (Nat.le_refl _)
      ·rw [En.add_other _ _ _ hbn] at hb; exact .inl hb
     all_goals simp
  ·cases h
end
end
end Ev
end
section
def has (l : List Str) (nm : Str) : Bool := l.any fun s => decide (s = nm)
def sortStr : List Str := [[],[97,114,101,97,32,98,97,115,101,32,98,114,32,99,111,108,32,101,109,98,101,100,32,104,114,32,105,109,103,32,105,110,112,117,116,32,108,105,110,107,32,109,101,116,97,32,112,97,114,97,109,32,115,111,117,114,99,101,32,116,114,97,99,107,32,119,98,114],[97,100,100,114,101,115,115,32,97,112,112,108,101,116,32,97,114,101,97,32,97,114,116,105,99,108,101,32,97,115,105,100,101,32,98,97,115,101,32,98,108,111,99,107,113,117,111,116,101,32,98,111,100,121,32,98,114,32,98,117,116,116,111,110,32,99,97,112,116,105,111,110,32,99,101,110,116,101,114,32,99,111,108,32,99,111,108,103,114,111,117,112,32,100,100,32,100,101,116,97,105,108,115,32,100,105,114,32,100,105,118,32,100,108,32,100,116,32,101,109,98,101,100,32,102,105,101,108,100,115,101,116,32,102,105,103,99,97,112,116,105,111,110,32,102,105,103,117,114,101,32,102,111,111,116,101,114,32,102,111,114,109,32,104,49,32,104,50,32,104,51,32,104,52,32,104,53,32,104,54,32,104,101,97,100,32,104,101,97,100,101,114,32,104,103,114,111,117,112,32,104,114,32,104,116,109,108,32,105,102,114,97,109,101,32,105,109,103,32,105,110,112,117,116,32,108,105,32,108,105,110,107,32,109,97,105,110,32,109,97,114,113,117,101,101,32,109,101,110,117,32,109,101,116,97,32,110,97,118,32,110,111,101,109,98,101,100,32,110,111,102,114,97,109,101,115,32,111,98,106,101,99,116,32,111,108,32,112,32,112,97,114,97,109,32,112,114,101,32,115,99,114,105,112,116,32,115,101,97,114,99,104,32,115,101,99,116,105,111,110,32,115,101,108,101,99,116,32,115,111,117,114,99,101,32,115,116,121,108,101,32,115,117,109,109,97,114,121,32,116,97,98,108,101,32,116,98,111,100,121,32,116,100,32,116,101,120,116,97,114,101,97,32,116,102,111,111,116,32,116,104,32,116,104,101,97,100,32,116,105,116,108,101,32,116,114,32,116,114,97,99,107,32,117,108,32,119,98,114,32,120,109,112],[97,32,98,32,98,105,103,32,99,111,100,101,32,101,109,32,102,111,110,116,32,105,32,110,111,98,114,32,115,32,115,109,97,108,108,32,115,116,114,105,107,101,32,115,116,114,111,110,103,32,116,116,32,117],[100,100,32,100,116,32,108,105,32,111,112,116,105,111,110,32,112,32,114,112,32,114,116],[104,49,32,104,50,32,104,51,32,104,52,32,104,53,32,104,54],[97,100,100,114,101,115,115,32,97,114,116,105,99,108,101,32,97,115,105,100,101,32,98,108,111,99,107,113,117,111,116,101,32,99,101,110,116,101,114,32,100,101,116,97,105,108,115,32,100,105,114,32,100,105,118,32,100,108,32,102,105,101,108,100,115,101,116,32,102,105,103,99,97,112,116,105,111,110,32,102,105,103,117,114,101,32,102,111,111,116,101,114,32,102,111,114,109,32,104,101,97,100,101,114,32,104,103,114,111,117,112,32,109,97,105,110,32,109,101,110,117,32,110,97,118,32,111,108,32,112,114,101,32,115,101,97,114,99,104,32,115,101,99,116,105,111,110,32,115,117,109,109,97,114,121,32,117,108],[97,112,112,108,101,116,32,109,97,114,113,117,101,101,32,111,98,106,101,99,116],[98,97,115,101,32,108,105,110,107,32,109,101,116,97,32,116,105,116,108,101,32,115,116,121,108,101,32,115,99,114,105,112,116,32,110,111,102,114,97,109,101,115]]
theorem ascii_sort (k : Nat) (h : k < 9) : (sortStr.getD k []).all (fun b => decide (b.toNat < 128)) = true ∧ (sortStr.getD k []).length ≤ 1000 := by
 have : ∀ k : Fin 9,(sortStr.getD k.val []).all (fun b => decide (b.toNat < 128)) = true ∧ (sortStr.getD k.val []).length ≤ 1000 := by decide +kernel
 exact this ⟨k,h⟩
end
section
open Go.RowKit
def sc (x : Str) : List Value := [.string (Bs x)]
theorem ones_sc (l : List Str) : ∀ u ∈ (l.map sc).flatten,u.oneCell' = true := by
 intro u hu
 obtain ⟨c,hc,hu⟩ := List.mem_flatten.1 hu
 obtain ⟨p,_,rfl⟩ := List.mem_map.1 hc
 simp [sc] at hu; subst hu; rfl
theorem Row.str {A : List Nat} {w : World} {s : Sl} {l : List Str} (h : Row A w s 1 (l.map sc)) {i : Nat} (hi : i < l.length) : ∃ p,s.a = some p ∧ w.cell? (p.add (i * 1)) = some (.string (Bs (l.getD i []))) := by
 obtain ⟨p,hp,_,hc,_⟩ := h.at_ i (by simpa using hi)
 have e : (l.map sc).getD i [] = sc (l.getD i []) := by simp [List.getD_eq_getElem?_getD,hi]
 rw [e] at hc
 have h0 := hc 0 _ rfl
 rw [Addr.add_zero'] at h0
 exact ⟨p,hp,h0⟩
theorem Row.strs {A : List Nat} {w : World} {s : Sl} {l : List Str} (h : Row A w s 1 (l.map sc)) : s.n = l.length ∧ s.n ≤ s.c ∧ s.c ≤ 9223372036854775807 := by
 have h1 := h.len
 have h2 := h.cap
 have h3 := h.most
 simp only [maxLen] at h3
 exact ⟨by simpa using h1,h2,by omega⟩
theorem Box.rowStrL {w : World} {B : Nat} {S : TypeId} {l : List Str} (h : Box w B S (l.map fun x => .string (Bs x))) (hl : l.length ≤ maxLen) {A : List Nat} (hA : B ∉ A) : Row A w (Sl.mk (some ⟨B,0,none⟩) l.length l.length) 1 (l.map sc) := by
 refine ⟨by simp,Nat.le_refl _,hl,fun i hi => ⟨⟨B,0,none⟩,rfl,hA,fun j v hj => ?_,?_⟩⟩
 ·simp only [List.length_map] at hi
  have e : (l.map sc).getD i [] = [.string (Bs (l[i]))] := by simp [List.getD_eq_getElem?_getD,hi,sc]
  rw [e] at hj
  cases j with
  |succ j => simp at hj
  |zero =>
   simp only [List.getElem?_cons_zero,Option.some.injEq] at hj
   subst hj
   rw [Addr.add_add,Addr.add_lit,Nat.mul_one,Nat.add_zero,Nat.zero_add]
   exact h.cell i _ (by simp [hi])
 ·simp only [List.length_map] at hi
  simp [List.getD_eq_getElem?_getD,hi,sc]
theorem Box.rowStr {w : World} {B : Nat} {S : TypeId} {l : List Str} (h : Box w B S (l.map fun x => .string (Bs x))) (hl : l.length ≤ 1000) {A : List Nat} (hA : B ∉ A) : Row A w (Sl.mk (some ⟨B,0,none⟩) l.length l.length) 1 (l.map sc) := h.rowStrL (by simp only [maxLen]; omega) hA
theorem pushStr {A bx : List Nat} {w : World} {s x : Sl} {l m : List Str} {ty : TypeId} {K : Value → World → Prop} (h : Own A w s 1 9 (l.map sc)) (hA : ∀ b ∈ A,b < w.heap.size) (hx : Row [] w x 1 (m.map sc)) (hl : l.length + m.length ≤ 1099511627776) (hbx : ∀ b ∈ bx,b ∈ A)
  (k : ∀ s' w',Own A w' s' 1 9 ((l ++ m).map sc) → Chg s.own w w' → K s'.v w') :
  RunK Tryz.prog (Builtin.append_ #[44,44] ty #[s.v,x.v]) w bx K := by
 have hn := h.len
 have hxn := hx.strs.1
 simp only [List.length_map] at hn
 cases hm : m with
 |nil =>
  subst hm
  have e := append_none (P := Tryz.prog) (w := w) (s := s) (x := x) (t := 44) (ty := ty) Tryz.underlying44 ti_9 h.cap (by simpa using hxn)
  rw [List.append_nil] at k
  exact ⟨_,_,e,fun _ _ _ => rfl,Nat.le_refl _,k s w h (Chg.refl _ _)⟩
 |cons a r =>
  refine App.runK Tryz.underlying44 ti_9 rfl (by decide) (.inl h) hA hx (ones_sc m) (by rw [hm]; simp) (by simp only [maxLen,List.length_map]; omega) (by simp only [List.length_map]; omega) hbx fun s' w' ho hc _ => k s' w' (by rw [List.map_append]; exact ho) hc
end
section
open Go.RowKit
theorem cntF_le : ∀ (l : List UInt8) (ws : Bool),Lib.cntF ws l ≤ l.length
 |[],_ => Nat.le_refl _
 |b :: t,ws => by
  have := cntF_le t (Lib.isSp b)
  simp only [Lib.cntF,List.length_cons]
  split <;> omega
def Sp (w : World) : Prop := Lib.TabIs Tryz.prog w "strings.asciiSpace" .u8 Lib.asciiSpaceTab
theorem fieldsC {w : World} (hT : Sp w) (s : Str) (ha : s.all (fun b => decide (b.toNat < 128)) = true) (hl : s.length ≤ 1000000) :
  Calls Tryz.prog 155 #[.string (Bs s)] w (Ret fun v w' => Ext w w' ∧ ∃ r : Sl,v = r.v ∧ Row [] w' r 1 ((Lib.fields s).map sc)) := by
 refine (Tryz.strings_Fields (Bs s) w (by rw [Bs_size]; omega) (fun j b hb => ?_) hT).mono fun e w' ⟨he,hw⟩ => ?_
 ·rw [Bs_data] at hb
  have := List.all_eq_true.1 ha b (List.mem_of_getElem? hb)
  simpa using this
 ·subst he hw
  rw [Bs_data]
  have hn : (Lib.fields s).length ≤ s.length := by rw [Lib.fields_length]; exact cntF_le s _
  have hb : Box (w.alloc (.cells ((Lib.fields s).map fun l => Value.string ⟨l.toArray⟩).toArray 9)) w.heap.size 9 ((Lib.fields s).map fun x => .string (Bs x)) := Box.alloc _ _ _
  generalize Lib.fields s = l at hb hn
  refine ⟨Ext.alloc _ _,⟨some ⟨w.heap.size,0,none⟩,l.length,l.length⟩,rfl,hb.rowStrL (by simp only [maxLen]; omega) (by simp)⟩
theorem Sp.ext {w w' : World} (h : Sp w) (c : Ext w w') : Sp w' := by
 have hg : Tryz.prog.globalNamed "strings.asciiSpace" = some 0 := by kernel_rfl
 unfold Sp Lib.TabIs World.var? at h ⊢
 rw [hg] at h ⊢
 simp only [Option.bind_some] at h ⊢
 have hlt : 0 < w.heap.size := by
  rcases Nat.lt_or_ge 0 w.heap.size with h' | h'
  ·exact h'
  ·rw [Array.getElem?_eq_none h'] at h; cases h
 rw [c.block _ hlt (by simp)]
 exact h
end
section
open Go.RowKit
theorem amgDrop {l : List Str} {nm : Str} {k : Nat} (h : k < l.length) : has (l.drop k) nm = (decide (l.getD k [] = nm) || has (l.drop (k + 1)) nm) := by
 unfold has
 rw [List.drop_eq_getElem_cons h,List.any_cons,List.getD_eq_getElem?_getD,List.getElem?_eq_getElem h]; rfl
theorem amgC {w : World} (hT : Sp w) (s nm : Str) (ha : s.all (fun b => decide (b.toNat < 128)) = true) (hl : s.length ≤ 1000000) :
  Calls Tryz.prog 128 #[.string (Bs s),.string (Bs nm)] w (Ret fun v w' => Ext w w' ∧ v = .bool (has (Lib.fields s) nm)) := by
 refine stack_among.ok _ _ ?_
 unfold stack_among.vc
 refine CallK.ext (fieldsC hT s ha hl) ?_
 rintro v w0 hE0 ⟨r,rfl,hr⟩
 generalize Lib.fields s = l at hr
 have hs := hr.strs
 refine ⟨r,rfl,fun i w1 => ∃ k : Nat,i = (k : Int) ∧ k ≤ l.length ∧ has l nm = has (l.drop k) nm ∧ Ext w0 w1,fun i _ => l.length - i.toNat,⟨0,rfl,Nat.zero_le _,rfl,Chg.refl _ _⟩,?_⟩
 rintro _ w1 ⟨k,rfl,hk,heq,hE⟩
 rw [Int.toNat_natCast]
 refine ⟨fun hi => ?_,fun hi => ⟨hE0.trans hE,?_⟩⟩
 ·have hk' : k < l.length := by omega
  obtain ⟨p,hp,hc⟩ := (hr.ext hE).str hk'
  rw [amgDrop hk'] at heq
  refine ⟨⟨by omega,hi⟩,p,hp,_,hc,fun he => ⟨hE0.trans hE,?_⟩,fun he => ⟨⟨by omega,by omega⟩,⟨k + 1,by omega,by omega,?_,hE⟩,by dsimp only; omega⟩⟩
  ·rw [heq,decide_eq_true he]; rfl
  ·rw [heq,decide_eq_false he]; rfl
 ·have hkl : k = l.length := by omega
  subst hkl
  rw [heq,List.drop_length]; rfl
namespace Ev
noncomputable section
def allNo (ws : List (List Nat)) (c : List (List Nat)) (H : AH) : Option (AV × AH) := cond (c.all fun q => inL q ws) (some (.c (.b true),H)) (cond (c.all fun q => !inL q ws) (some (.c (.b false),H)) none)
def spM (f : Nat) (vs : List AV) (H : AH) : Option (AV × AH) := cond (Nat.beq f 128) (match vs with
 |[.c (.s l),.c (.s nm)] => cond (inL l asked) (some (.c (.b (inL nm (splitW l))),H)) none
 |[.c (.s l),.c (.tx n [])] => cond (inL l asked && Nat.ble 100 n) (allNo (splitW l) (clsN n) H) none
 |_ => none) (spF f vs H)
theorem allNo_ok {ws c : List (List Nat)} {H H' : AH} {v : AV} {q : List Nat} (hq : q ∈ c) (h : allNo ws c H = some (v,H')) : v = .c (.b (inL q ws)) ∧ H' = H := by
 unfold allNo at h
 cases h1 : c.all fun q => inL q ws with
 |true =>
  rw [h1] at h; injection h with h; injection h with e1 e2; subst e1; subst e2
  rw [List.all_eq_true.1 h1 q hq]; exact ⟨rfl,rfl⟩
 |false =>
  rw [h1] at h
  cases h2 : c.all fun q => !inL q ws with
  |true =>
   rw [h2] at h; injection h with h; injection h with e1 e2; subst e1; subst e2
   have := List.all_eq_true.1 h2 q hq
   rw [Bool.not_eq_true'] at this
   rw [this]; exact ⟨rfl,rfl⟩
  |false => rw [h2] at h; cases h
theorem allNo_H {ws c : List (List Nat)} {H H' : AH} {v : AV} (h : allNo ws c H = some (v,H')) : H' = H := by
 unfold allNo at h
 cases h1 : c.all fun q => inL q ws with
 |true => rw [h1] at h; injection h with h; injection h with _ e; exact e.symm
 |false =>
  rw [h1] at h
  cases h2 : c.all fun q => !inL q ws with
  |true => rw [h2] at h; injection h with h; injection h with _ e; exact e.symm
  |false => rw [h2] at h; cases h
theorem has_inL {nm : List Nat} (hn : ∀ n ∈ nm,n < 256) : ∀ fl : List Str,has fl (nm.map UInt8.ofNat) = inL nm (fl.map fun l => l.map UInt8.toNat)
 |[] => rfl
 |x :: fl => by
  show (decide (x = nm.map UInt8.ofNat) || has fl (nm.map UInt8.ofNat)) = cond (leqL (x.map UInt8.toNat) nm) true (inL nm (fl.map fun l => l.map UInt8.toNat))
  rw [has_inL hn fl,leqL_eq]
  have e : decide (x = nm.map UInt8.ofNat) = decide (x.map UInt8.toNat = nm) := by
   apply decide_eq_decide.2
   constructor
   ·intro h; subst h
    rw [List.map_map]
    conv => rhs; rw [← List.map_id nm]
    exact List.map_congr_left fun n h => by
     have := hn n h
     simp only [Function.comp_apply,id_eq,UInt8.toNat_ofNat']
     omega
   ·intro h; rw [← h,List.map_map]
    conv => lhs; rw [← List.map_id x]
    exact List.map_congr_left fun b _ => by simp
  rw [e]
  cases decide (x.map UInt8.toNat = nm) <;> rfl
section
variable [Tx]
theorem spM_ok (G : Nat) : RunOk Tryz.prog G spM := by
 intro f vs H H' v h
 replace h : cond (Nat.beq f 128) (match (generalizing := false) vs with
  |[.c (.s l),.c (.s nm)] => cond (inL l asked) (some (AV.c (.b (inL nm (splitW l))),H)) none
  |[.c (.s l),.c (.tx n [])] => cond (inL l asked && Nat.ble 100 n) (allNo (splitW l) (clsN n) H) none
  |_ => none) (spF f vs H) = some (v,H') := h
 cases hb : Nat.beq f 128 with
 |false => rw [hb] at h; exact spF_ok G h
 |true =>
  rw [hb] at h
  have hf := Nat.eq_of_beq_eq_true hb
  subst hf
  replace h : (match (generalizing := false) vs with
   |[.c (.s l),.c (.s nm)] => cond (inL l asked) (some (AV.c (.b (inL nm (splitW l))),H)) none
   |[.c (.s l),.c (.tx n [])] => cond (inL l asked && Nat.ble 100 n) (allNo (splitW l) (clsN n) H) none
   |_ => none) = some (v,H') := h
  split at h
  ·rename_i l nm
   obtain ⟨hin,h⟩ := cond_some h
   injection h with h1 h2; subst h1; subst h2
   refine ⟨⟨_,Tryz.func128,by decide +kernel,rfl⟩,fun {E w0 w args} hG hH hA => ⟨Keeps.refl _ _,?_⟩⟩
   have hall := List.all_eq_true.1 asked_ok l (inL_mem hin)
   simp only [Bool.and_eq_true,decide_eq_true_eq] at hall
   obtain ⟨⟨a1,a2⟩,a3⟩ := hall
   match args,hA with
   |[u,t],.cons hu (.cons ht .nil) =>
    obtain ⟨rfl,_⟩ := hu
    obtain ⟨rfl,hn⟩ := ht
    refine (amgC hH.table (l.map UInt8.ofNat) (nm.map UInt8.ofNat) a1 (by simpa using a2)).mono fun e w' hr => ?_
    cases e with
    |returned v =>
     obtain ⟨hE,rfl⟩ := hr
     refine ⟨E,En.le_refl _,fun _ _ h => .inl h,hH.ext hE,?_⟩
     show Value.bool _ = Value.bool _
     rw [has_inL hn,a3]
    |_ => exact hr.elim
  ·rename_i l n
   have hin : (inL l asked && Nat.ble 100 n) = true := by
    cases hb : (inL l asked && Nat.ble 100 n) with
    |true => rfl
    |false => rw [hb] at h; cases h
   rw [hin] at h
   simp only [Bool.and_eq_true] at hin
   obtain ⟨hin,hn⟩ := hin
   obtain rfl := allNo_H h
   refine ⟨⟨_,Tryz.func128,by decide +kernel,rfl⟩,fun {E w0 w args} hG hH hA => ⟨Keeps.refl _ _,?_⟩⟩
   have hall := List.all_eq_true.1 asked_ok l (inL_mem hin)
   simp only [Bool.and_eq_true,decide_eq_true_eq] at hall
   obtain ⟨⟨a1,a2⟩,a3⟩ := hall
   match args,hA with
   |[u,t],.cons hu (.cons ht .nil) =>
    obtain ⟨rfl,_⟩ := hu
    obtain ⟨rfl,_,hc⟩ := ht
    obtain ⟨q,hq,hqt⟩ := hc (Nat.le_of_ble_eq_true hn)
    obtain ⟨rfl,_⟩ := allNo_ok hq h
    refine (amgC hH.table (l.map UInt8.ofNat) _ a1 (by simpa using a2)).mono fun e w' hr => ?_
    cases e with
    |returned v' =>
     obtain ⟨hE,rfl⟩ := hr
     rw [List.map_nil,List.nil_append,hqt,has_inL (clsN_lt n q hq),a3]
     exact ⟨E,En.le_refl _,fun _ _ h => .inl h,hH.ext hE,rfl⟩
    |_ => exact hr.elim
  ·cases h
end
end
end Ev
end
section
namespace Ev
set_option autoImplicit false
open Go.RowKit
noncomputable section
theorem set_at {H : AH} {b n : Nat} {o : AO} (h : n ≠ b) : (H.set b o).at n = H.at n := by
 unfold AH.at
 rw [AH.get_set,if_neg h]; rfl
theorem set_lst_at {H : AH} {b : Nat} {v : List (Nat × Nat)} : (H.set b (.lst v)).at b = none := by
 unfold AH.at
 rw [AH.get_set,if_pos rfl]
def onlyL (H : AH) (b : Nat) : Bool := Nat.rec true (fun n ih => cond (match H.get n with | some (.lst _) => Nat.beq n b | _ => true) ih false) H.nx
theorem onlyL_ok {H : AH} {b n : Nat} {v : List (Nat × Nat)} (h : onlyL H b = true) (hn : n < H.nx) (hg : H.get n = some (.lst v)) : n = b := by
 unfold onlyL at h
 generalize H.nx = m at h hn
 induction m with
 |zero => omega
 |succ m ih =>
  replace h : cond (match H.get m with | some (.lst _) => Nat.beq m b | _ => true) (Nat.rec true (fun n ih => cond (match H.get n with | some (.lst _) => Nat.beq n b | _ => true) ih false) m) false = true := h
  cases hc : (match H.get m with | some (.lst _) => Nat.beq m b | _ => true) with
  |false => rw [hc] at h; cases h
  |true =>
   rw [hc] at h
   by_cases e : n = m
   ·subst e
    rw [hg] at hc
    exact Nat.eq_of_beq_eq_true hc
   ·exact ih h (by omega)
section
variable [Tx]
theorem HR.lset {E : En} {H : AH} {w0 : W0} {w w' : World} {b B S : Nat} {v v' : List (Nat × Nat)} {K K' : List Nat} (h : HR E H w0 w) (hg : H.get b = some (.lst v)) (he : E b = some (B,S)) (ho : onlyL H b = true) (hK : ∀ n p,n ≠ b → E n = some p → p.1 ∉ K) (hm : ∀ k ∈ K,w0.may k)
  (c : Chg K w w') (hL : LsN K' w' B v') (hK' : ∀ k ∈ K',k < w'.heap.size ∧ (k ∈ K ∨ w.heap.size ≤ k)) : HR E (H.set b (.lst v')) w0 w' := by
 have ne : ∀ {n T c l},(H.set b (.lst v')).at n = some (T,c,l) → n ≠ b ∧ H.at n = some (T,c,l) := fun {n T c l} h => by
  have hn : n ≠ b := fun e => by subst e; rw [set_lst_at] at h; cases h
  rw [set_at hn] at h
  exact ⟨hn,h⟩
 have lv : ∀ {n},live (H.set b (.lst v')) n → n ≠ b ∧ live H n := fun {n} hl => by
  rcases hl with hl | ⟨es,cl,hl⟩
  ·cases hat : (H.set b (.lst v')).at n with
   |none => rw [hat] at hl; cases hl
   |some q =>
    obtain ⟨T,c,l⟩ := q
    obtain ⟨h1,h2⟩ := ne hat
    exact ⟨h1,.inl (by rw [h2]; rfl)⟩
  ·rw [AH.get_set] at hl
   by_cases e : n = b
   ·rw [if_pos e] at hl; cases hl
   ·rw [if_neg e] at hl
    exact ⟨e,.inr ⟨es,cl,hl⟩⟩
 have keep : ∀ {n : Nat} {p : Nat × Nat} {o : Obj},n ≠ b → E n = some p → w.heap[p.1]? = some o → w'.heap[p.1]? = some o := fun {n p o} hn hp hb => by
  rw [c.block _ (Array.getElem?_eq_some_iff.1 hb).1 (hK n p hn hp)]; exact hb
 refine ⟨fun x p hp => Nat.lt_of_lt_of_le (h.lt x p hp) c.size,h.wp,h.ch.fresh c hm,h.dom,fun n o hn => ?_,h.fkey,fun n T c l e hn => ?_,fun n T c f e hn => ?_,fun n T c l B' S' hn hE => ?_,fun n es cl B' S' hn hE => ?_,fun n n' B' S' S'' hnn h1 h2 h3 h4 => ?_,fun n u B' S' hn hE => ?_⟩
 ·rw [AH.get_set] at hn
  by_cases e : n = b
  ·subst e; exact h.key _ _ hg
  ·rw [if_neg e] at hn; exact h.key n o hn
 ·rw [AH.get_set] at hn
  by_cases e' : n = b
  ·rw [if_pos e'] at hn; cases hn
  ·rw [if_neg e'] at hn; exact h.bf n T c l e hn
 ·obtain ⟨h1,h2⟩ := ne hn
  obtain ⟨q,T',c',g1,g2,g3⟩ := h.las n T c f e h2
  have hq : q ≠ b := fun e => by
   subst e
   have := (AH.at_eq.1 g2).1
   rw [hg] at this; cases this
  exact ⟨q,T',c',g1,by rw [set_at hq]; exact g2,g3⟩
 ·obtain ⟨h1,h2⟩ := ne hn
  obtain ⟨C,T',fz,g1,g2⟩ := h.cel n T c l B' S' h2 hE
  exact ⟨C,T',fz,keep h1 hE g1,g2⟩
 ·rw [AH.get_set] at hn
  by_cases e : n = b
  ·rw [if_pos e] at hn; cases hn
  ·rw [if_neg e] at hn
   obtain ⟨g0,ms,g1,g2⟩ := h.mp n es cl B' S' hn hE
   exact ⟨g0,ms,keep e hE g1,g2⟩
 ·obtain ⟨k1,k2⟩ := lv h3
  obtain ⟨k3,k4⟩ := lv h4
  obtain ⟨f,e,T,c,T',c',g1,g2⟩ := h.inj n n' B' S' S'' hnn h1 h2 k2 k4
  exact ⟨f,e,T,c,T',c',by rw [set_at k1]; exact g1,by rw [set_at k3]; exact g2⟩
 ·by_cases e : n = b
  ·subst e
   rw [AH.get_set,if_pos rfl] at hn
   injection hn with hn; injection hn with hn; subst hn
   rw [he] at hE; injection hE with hE; injection hE with e1 e2; subst e1; subst e2
   obtain ⟨s,X,l1,l2,l3⟩ := hL
   refine ⟨K',l2,⟨s,X,l1,l2,l3⟩,fun m p hm' hp hk => ?_,fun k hk => ⟨(hK' k hk).1,?_⟩⟩
   ·rcases (hK' _ hk).2 with h1 | h1
    ·exact hK m p hm' hp h1
    ·have := h.lt m p hp
     omega
   ·rcases (hK' k hk).2 with h1 | h1
    ·exact hm k h1
    ·exact .inl (Nat.le_trans h.ch.size h1)
  ·rw [AH.get_set,if_neg e] at hn
   exact absurd (onlyL_ok ho (h.key _ _ hn) hn) e
theorem HR.view {E : En} {H : AH} {w0 : W0} {w : World} {b : Nat} {v v' : List (Nat × Nat)} (h : HR E H w0 w) (hg : H.get b = some (.lst v)) (hv : ∀ K B,LsN K w B v → LsN K w B v') : HR E (H.set b (.lst v')) w0 w := by
 have ne : ∀ {n T c l},(H.set b (.lst v')).at n = some (T,c,l) → n ≠ b ∧ H.at n = some (T,c,l) := fun {n T c l} h => by
  have hn : n ≠ b := fun e => by subst e; rw [set_lst_at] at h; cases h
  rw [set_at hn] at h
  exact ⟨hn,h⟩
 have no : ∀ {n o},(H.set b (.lst v')).get n = some o → (∀ u,o ≠ .lst u) → n ≠ b ∧ H.get n = some o := fun {n o} hn ho => by
  rw [AH.get_set] at hn
  by_cases e : n = b
  ·rw [if_pos e] at hn; injection hn with hn; exact absurd hn.symm (ho _)
  ·rw [if_neg e] at hn; exact ⟨e,hn⟩
 have lv : ∀ {n},live (H.set b (.lst v')) n → n ≠ b ∧ live H n := fun {n} hl => by
  rcases hl with hl | ⟨es,cl,hl⟩
  ·cases hat : (H.set b (.lst v')).at n with
   |none => rw [hat] at hl; cases hl
   |some q =>
    obtain ⟨T,c,l⟩ := q
    obtain ⟨h1,h2⟩ := ne hat
    exact ⟨h1,.inl (by rw [h2]; rfl)⟩
  ·obtain ⟨h1,h2⟩ := no hl (by simp)
   exact ⟨h1,.inr ⟨es,cl,h2⟩⟩
 refine ⟨h.lt,h.wp,h.ch,h.dom,fun n o hn => ?_,h.fkey,fun n T c l e hn => h.bf n T c l e (no hn (by simp)).2,fun n T c f e hn => ?_,fun n T c l B' S' hn hE => h.cel n T c l B' S' (ne hn).2 hE,fun n es cl B' S' hn hE => h.mp n es cl B' S' (no hn (by simp)).2 hE,fun n n' B' S' S'' hnn h1 h2 h3 h4 => ?_,fun n u B' S' hn hE => ?_⟩
 ·by_cases e : n = b
  ·subst e; exact h.key _ _ hg
  ·rw [AH.get_set,if_neg e] at hn; exact h.key n o hn
 ·obtain ⟨h1,h2⟩ := ne hn
  obtain ⟨q,T',c',g1,g2,g3⟩ := h.las n T c f e h2
  have hq : q ≠ b := fun e => by
   subst e
   have := (AH.at_eq.1 g2).1
   rw [hg] at this; cases this
  exact ⟨q,T',c',g1,by rw [set_at hq]; exact g2,g3⟩
 ·obtain ⟨k1,k2⟩ := lv h3
  obtain ⟨k3,k4⟩ := lv h4
  obtain ⟨f,e,T,c,T',c',g1,g2⟩ := h.inj n n' B' S' S'' hnn h1 h2 k2 k4
  exact ⟨f,e,T,c,T',c',by rw [set_at k1]; exact g1,by rw [set_at k3]; exact g2⟩
 ·rw [AH.get_set] at hn
  by_cases e : n = b
  ·subst e
   rw [if_pos rfl] at hn
   injection hn with hn; injection hn with hn; subst hn
   obtain ⟨K,l1,l2,l3⟩ := h.ls n v B' S' hg hE
   exact ⟨K,l1,hv K B' l2,l3⟩
  ·rw [if_neg e] at hn
   exact h.ls n u B' S' hn hE
end
end
end Ev
end
section
namespace Ev
set_option autoImplicit false
open Go.RowKit
noncomputable section
theorem and_some {α : Type} {a b : Bool} {x : α} {o : Option α} (h : cond (a && b) o none = some x) : a = true ∧ cond b o none = some x := by
 cases a with
 |false => cases h
 |true => exact ⟨rfl,h⟩
theorem cnd_some {α : Type} {a : Bool} {x : α} {o : Option α} (h : cond a o none = some x) : a = true ∧ o = some x := by
 cases a with
 |false => cases h
 |true => exact ⟨rfl,h⟩
section
variable [Tx]
theorem rd1 {E : En} {H : AH} {w0 : W0} {w : World} (h : HR E H w0 w) {b o B S : Nat} {x : AC} (hr : H.rd b o 1 = some [x]) (he : E b = some (B,S)) : ∃ v,w.cell? ⟨B,o,none⟩ = some v ∧ x.v E v := by
 obtain ⟨cs,h1,h2,h3⟩ := h.rd hr he
 cases h2 with
 |cons hx ht =>
  cases ht
  have := h3 0 _ rfl
  rw [Addr.add_zero'] at this
  exact ⟨_,this,hx⟩
end
def idOf (H : AH) (x : AC) : Option (Nat × Nat) := match x with
 |.p (some (q,o)) => cond (Nat.beq o 0) (match H.rd q 0 1 with
  |some [.i .i64 (.ofNat id)] => some (q,id)
  |_ => none) none
 |_ => none
def idsN (H : AH) (l : List AC) : Option (List (Nat × Nat)) := List.rec (some []) (fun x _ ih => match idOf H x,ih with | some p,some r => some (p :: r) | _,_ => none) l
def noneN (n : Nat) (l : List (Nat × Nat)) : Bool := List.rec true (fun x _ ih => cond (Nat.beq n x.2) false ih) l
def diffN (l : List (Nat × Nat)) : Bool := List.rec true (fun x r ih => cond (noneN x.2 r) ih false) l
structure OpN where
 y : Nat
 oy : Nat
 n : Nat
 c : Nat
 lb : Nat
 L : List (Nat × Nat)
 V : List (Nat × Nat)
def opnN (H : AH) (b : Nat) : Option OpN := match H.rd b 3 2 with
 |some [.sl (some (y,oy)) n c es,.p (some (lb,ol))] => cond (Nat.beq es 1 && (Nat.beq ol 0 && (Nat.ble n 1000 && (Nat.ble 1 n && (!Nat.beq b lb && onlyL H lb))))) (match H.rd y oy n with
  |some l => match idsN H l,H.get lb with
   |some L,some (.lst V) => cond (diffN L) (some ⟨y,oy,n,c,lb,L,V⟩) none
   |_,_ => none
  |none => none) none
 |_ => none
def lastP (l : List (Nat × Nat)) : Option (List (Nat × Nat) × (Nat × Nat)) := List.rec none (fun x _ ih => match ih with | some p => some (x :: p.1,p.2) | none => some ([],x)) l
theorem lastP_ok : ∀ {l i : List (Nat × Nat)} {x : Nat × Nat},lastP l = some (i,x) → l = i ++ [x]
 |[],_,_,h => by cases h
 |y :: l,i,x,h => by
  replace h : (match lastP l with | some p => some (y :: p.1,p.2) | none => some ([],y)) = some (i,x) := h
  cases e : lastP l with
  |none =>
   rw [e] at h; injection h with h; injection h with h1 h2; subst h1; subst h2
   cases l with
   |nil => rfl
   |cons z l =>
    exfalso
    have e' : (match lastP l with | some p => some (z :: p.1,p.2) | none => some ([],z)) = none := e
    split at e' <;> cases e'
  |some p =>
   obtain ⟨p1,p2⟩ := p
   rw [e] at h; injection h with h; injection h with h1 h2; subst h1; subst h2
   rw [lastP_ok e]; rfl
theorem noneN_ok {n : Nat} : ∀ {l : List (Nat × Nat)},noneN n l = true → ∀ x ∈ l,x.2 ≠ n
 |[],_,x,hx => by cases hx
 |y :: l,h,x,hx => by
  replace h : cond (Nat.beq n y.2) false (noneN n l) = true := h
  cases hb : Nat.beq n y.2 with
  |true => rw [hb] at h; cases h
  |false =>
   rw [hb] at h
   rcases List.mem_cons.1 hx with rfl | hx
   ·intro e; rw [e,Nat.beq_refl n] at hb; cases hb
   ·exact noneN_ok h x hx
theorem diffN_ok : ∀ {l : List (Nat × Nat)},diffN l = true → ∀ j k,j < k → k < l.length → (l.getD j (0,0)).2 ≠ (l.getD k (0,0)).2
 |[],_,j,k,_,hk => by simp at hk
 |y :: l,h,j,k,hjk,hk => by
  replace h : cond (noneN y.2 l) (diffN l) false = true := h
  cases hb : noneN y.2 l with
  |false => rw [hb] at h; cases h
  |true =>
   rw [hb] at h
   obtain ⟨k,rfl⟩ : ∃ k',k = k' + 1 := ⟨k - 1,by omega⟩
   have hk' : k < l.length := by simpa using hk
   cases j with
   |zero =>
    have := noneN_ok hb _ (List.getElem_mem hk')
    simp only [List.getD_cons_zero,List.getD_cons_succ]
    rw [List.getD_eq_getElem?_getD,List.getElem?_eq_getElem hk']
    exact fun e => this e.symm
   |succ j =>
    simp only [List.getD_cons_succ]
    exact diffN_ok h j k (by omega) hk'
theorem idsN_ok {H : AH} : ∀ {l : List AC} {L : List (Nat × Nat)},idsN H l = some L → L.length = l.length ∧ ∀ (j : Nat) (x : AC),l[j]? = some x → idOf H x = some (L.getD j (0,0))
 |[],L,h => by injection h with h; subst h; exact ⟨rfl,fun j x hx => by simp at hx⟩
 |y :: l,L,h => by
  replace h : (match idOf H y,idsN H l with | some p,some r => some (p :: r) | _,_ => none) = some L := h
  split at h
  ·rename_i p r e1 e2
   injection h with h; subst h
   obtain ⟨g1,g2⟩ := idsN_ok e2
   refine ⟨by simp [g1],fun j x hx => ?_⟩
   cases j with
   |zero => simp at hx; subst hx; exact e1
   |succ j => simpa using g2 j x (by simpa using hx)
  ·cases h
section
variable [Tx] {E : En} {H : AH} {w0 : W0} {w : World}
theorem idOf_ok (h : HR E H w0 w) {x : AC} {q id : Nat} {v : Value} (hn : idOf H x = some (q,id)) (hv : x.v E v) : ∃ P S,E q = some (P,S) ∧ v = .pointer (some ⟨P,0,none⟩) ∧ w.cell? ⟨P,0,none⟩ = some (.int .i64 (id : Int)) := by
 unfold idOf at hn
 split at hn
 ·rename_i q' o
  obtain ⟨h0,hn⟩ := cnd_some hn
  obtain rfl := beq_of h0
  split at hn
  ·rename_i id' hr
   injection hn with hn; injection hn with h1 h2; subst h1; subst h2
   obtain ⟨P,S,e,rfl⟩ := hv
   obtain ⟨u,h3,h4⟩ := rd1 h hr e
   cases h4
   exact ⟨P,S,e,rfl,h3⟩
  ·cases hn
 ·cases hn
theorem opn_ok (h : HR E H w0 w) {b B S : Nat} {z : OpN} (hz : opnN H b = some z) (he : E b = some (B,S)) :
  ∃ (Y SY cap LB SL : Nat) (ps : Nat → Nat),E z.y = some (Y,SY) ∧ z.c ≤ cap ∧ z.n ≤ cap ∧ z.oy + cap ≤ SY ∧ E z.lb = some (LB,SL) ∧ H.get z.lb = some (.lst z.V) ∧ z.lb ≠ b ∧ onlyL H z.lb = true ∧ 1 ≤ z.n ∧ z.L.length = z.n ∧
   Opn w B Y z.oy cap z.n ps (fun k => (z.L.getD k (0,0)).2) LB ∧ (∀ j k,j < k → k < z.n → (z.L.getD j (0,0)).2 ≠ (z.L.getD k (0,0)).2) ∧ ∀ j,j < z.n → ∃ S,E (z.L.getD j (0,0)).1 = some (ps j,S) := by
 unfold opnN at hz
 split at hz
 ·rename_i y oy n c es lb ol hr
  obtain ⟨a1,z1⟩ := and_some hz
  obtain ⟨a2,z2⟩ := and_some z1
  obtain ⟨a3,z3⟩ := and_some z2
  obtain ⟨a4,z4⟩ := and_some z3
  obtain ⟨a5,z5⟩ := and_some z4
  obtain ⟨a6,z6⟩ := cnd_some z5
  clear hz z1 z2 z3 z4 z5
  obtain rfl := beq_of a1
  obtain rfl := beq_of a2
  have hn1 := Nat.le_of_ble_eq_true a3
  have hn2 := Nat.le_of_ble_eq_true a4
  split at z6
  ·rename_i l hl
   split at z6
   ·rename_i L V hL hV
    obtain ⟨a7,z7⟩ := cnd_some z6
    injection z7 with z7; subst z7
    obtain ⟨cs,_,hcs,hcl⟩ := h.rd hr he
    match cs,hcs with
    |[u1,u2],.cons k1 (.cons k2 .nil) =>
     obtain ⟨Y,SY,oy',cap,e1,rfl,e2,e3,e4,e5⟩ := k1
     obtain ⟨LB,SL,e6,rfl⟩ := k2
     obtain rfl : oy' = oy := by rcases e4 with e | e <;> omega
     obtain ⟨ds,hdl,hds,hdc⟩ := h.rd hl e1
     have hll : l.length = n := by rw [← hdl]; exact (All2.length hds).symm
     obtain ⟨g1,g2⟩ := idsN_ok hL
     have hone : ∀ j,∃ P : Nat,j < n → (∃ S,E (L.getD j (0,0)).1 = some (P,S)) ∧ w.cell? ⟨Y,oy' + j,none⟩ = some (.pointer (some ⟨P,0,none⟩)) ∧ w.cell? ⟨P,0,none⟩ = some (.int .i64 ((L.getD j (0,0)).2 : Int)) := fun j => by
      by_cases hj : j < n
      ·obtain ⟨u,k3,k4⟩ := All2.get hds j _ (List.getElem?_eq_getElem (by omega))
       obtain ⟨P,SP,k5,rfl,k6⟩ := idOf_ok h (g2 j _ (List.getElem?_eq_getElem (by omega))) k4
       have k7 := hdc j _ k3
       rw [Addr.add_lit] at k7
       exact ⟨P,fun _ => ⟨⟨SP,k5⟩,k7,k6⟩⟩
      ·exact ⟨0,fun h => absurd h hj⟩
     obtain ⟨ps,hps⟩ := Classical.axiomOfChoice hone
     refine ⟨Y,SY,cap,LB,SL,ps,e1,e2,e3,by dsimp only; omega,e6,hV,fun e => (by dsimp only at e; subst e; rw [Nat.beq_refl] at a5; cases a5),a6,hn2,by rw [g1,hll],⟨?_,?_,fun j hj => ?_,fun j hj => ?_,by dsimp only; omega⟩,fun j k hjk hk => diffN_ok a7 j k hjk (by rw [g1,hll]; exact hk),fun j hj => (hps j hj).1⟩
     ·have := hcl 0 _ rfl
      rw [Addr.add_lit] at this ⊢; exact this
     ·have := hcl 1 _ rfl
      rw [Addr.add_lit] at this ⊢; exact this
     ·rw [Addr.add_lit,Nat.mul_one]; exact (hps j hj).2.1
     ·rw [Addr.add_lit]; exact (hps j hj).2.2
   ·cases z6
  ·cases z6
 ·cases hz
end
def rebN (vs : List AV) (H : AH) : Option (AV × AH) := match vs with
 |[.c (.p (some (b,o)))] => cond (Nat.beq o 0) (match opnN H b with
  |some z => cond (z.V.all fun p => !noneN p.1 z.L) (some (.t [],H)) none
  |none => none) none
 |_ => none
theorem someN {n : Nat} : ∀ {l : List (Nat × Nat)},noneN n l = false → ∃ k,k < l.length ∧ (l.getD k (0,0)).2 = n
 |[],h => by cases h
 |y :: l,h => by
  replace h : cond (Nat.beq n y.2) false (noneN n l) = false := h
  cases hb : Nat.beq n y.2 with
  |true => exact ⟨0,by simp,(Nat.eq_of_beq_eq_true hb).symm⟩
  |false =>
   rw [hb] at h
   obtain ⟨k,h1,h2⟩ := someN h
   exact ⟨k + 1,by simpa using h1,by simpa using h2⟩
def pshN (vs : List AV) (H : AH) : Option (AV × AH) := match vs with
 |[.c (.p (some (lb,o))),.a [.i .i64 (.ofNat id),.tx n [],.sl none _ _ _]] => cond (Nat.beq o 0 && onlyL H lb) (match H.get lb with
  |some (.lst V) => cond (Nat.beq (Nat.mod n 4) 1 && (Nat.ble 100 n && Nat.ble V.length 1000)) (some (.t [],H.set lb (.lst (V ++ [(id,n)])))) none
  |_ => none) none
 |_ => none
def adoN (vs : List AV) (H : AH) : Option (AV × AH) := match vs with
 |[.c (.p (some (b,o))),.c (.tx m [])] => cond (Nat.beq o 0) (match opnN H b with
  |some z => match lastP z.V,lastP z.L,H.wr b 3 [.sl (some (z.y,z.oy)) (Nat.pred z.n) z.c 1] with
   |some (V0,p),some (_,q),some H1 => cond (Nat.beq p.1 q.2 && (Nat.beq (upN p.2) (upN m) && (noneN p.1 (V0.map fun x => (x.2,x.1)) && onlyL H1 z.lb))) (match H.rd q.1 2 1 with
    |some [.tx m2 []] => cond (Nat.beq (upN m2) (upN m)) (some (.t [],H1.set z.lb (.lst V0))) none
    |_ => none) none
   |_,_,_ => none
  |none => none) none
 |_ => none
section
variable [Tx] {E : En} {H : AH} {w0 : W0} {w : World}
end
section
variable {E : En} {H : AH} {w0 : W0} {w : World}
theorem set_keeps {lb B S : Nat} {o : AO} (he : E lb = some (B,S)) : Keeps E H (H.set lb o) :=
 ⟨Nat.le_refl _,fun z _ hz => by
  rw [AH.get_set,if_neg fun e => by subst e; rw [he] at hz; cases hz]⟩
end
section
variable [Tx] {E : En} {H : AH} {w0 : W0} {w : World}
theorem rebN_ok {vs : List AV} {H' : AH} {v : AV} (h : rebN vs H = some (v,H')) {args : List Value} (hH : HR E H w0 w) (hA : All2 (AV.v E) vs args) :
  Keeps E H H' ∧ Calls Tryz.prog 114 args.toArray w (Ret fun u w' => Post E H H' w0 v u w') := by
 unfold rebN at h
 split at h
 ·rename_i b o
  obtain ⟨a1,h1⟩ := cnd_some h
  clear h
  obtain rfl := beq_of a1
  split at h1
  ·rename_i z hz
   obtain ⟨a2,h2⟩ := cnd_some h1
   injection h2 with h2; injection h2 with g1 g2; subst g1; subst g2
   refine ⟨Keeps.refl _ _,?_⟩
   match args,hA with
   |[a0],.cons hb .nil =>
    obtain ⟨B,S,e1,rfl⟩ := hb
    obtain ⟨Y,SY,cap,LB,SL,ps,k1,k2,k3,k4,k5,k6,k7,k8,k9,k10,ho,hd,_⟩ := opn_ok hH hz e1
    obtain ⟨K,l1,⟨s,X,l2,_,_,l3,l4⟩,_,_⟩ := hH.ls _ _ _ _ k6 k5
    refine Ret.mono (bRebuild ho hd l2 fun x hx => ?_) fun u w' ⟨hE,hu⟩ => ⟨E,En.le_refl _,fun _ _ h => .inl h,hH.ext hE,[],hu,.nil⟩
    obtain ⟨p,hp,e⟩ := List.mem_map.1 (l4.mem (List.mem_map_of_mem hx))
    have e' : (p.1 : Int) = x.id := congrArg Prod.fst e
    have := List.all_eq_true.1 a2 p hp
    simp only [Bool.not_eq_true'] at this
    obtain ⟨k,hk,hk2⟩ := someN this
    exact ⟨k,by omega,by rw [← e',hk2]⟩
  ·cases h1
 ·cases h
theorem pshN_ok {vs : List AV} {H' : AH} {v : AV} (h : pshN vs H = some (v,H')) {args : List Value} (hH : HR E H w0 w) (hA : All2 (AV.v E) vs args) :
  Keeps E H H' ∧ Calls Tryz.prog 166 args.toArray w (Ret fun u w' => Post E H H' w0 v u w') := by
 unfold pshN at h
 split at h
 ·rename_i lb o id n _ _ _
  obtain ⟨a1,h1⟩ := and_some h
  obtain ⟨a2,h2⟩ := cnd_some h1
  clear h h1
  obtain rfl := beq_of a1
  split at h2
  ·rename_i V hg
   obtain ⟨b1,h3⟩ := and_some h2
   obtain ⟨b2,h4⟩ := and_some h3
   obtain ⟨a3,h5⟩ := cnd_some h4
   clear h2 h3 h4
   injection h5 with h5; injection h5 with g1 g2; subst g1; subst g2
   match args,hA with
   |[a0,a1],.cons hb (.cons ha .nil) =>
    obtain ⟨B,S,e1,rfl⟩ := hb
    obtain ⟨cs,rfl,hc⟩ := ha
    cases hc with | cons u1 hc =>
    cases hc with | cons u2 hc =>
    cases hc with | cons u3 hc =>
    cases hc
    cases u1
    obtain ⟨rfl,_,hcl⟩ := u2
    obtain ⟨_,_,rfl⟩ := u3
    have hcl := hcl (Nat.le_of_ble_eq_true b2)
    rw [show clsN n = nmF by unfold clsN; rw [beq_of b1]; rfl] at hcl
    obtain ⟨K,l1,l2,l3,l4⟩ := hH.ls _ _ _ _ hg e1
    refine ⟨set_keeps e1,?_⟩
    rw [List.map_nil,List.nil_append]
    refine Ret.mono (pushL l2 (Nat.le_of_ble_eq_true a3) id n hcl) fun u w' ⟨hu,hc,hL⟩ => ⟨E,En.le_refl _,fun _ _ h => .inl h,hH.lset hg e1 a2 l3 (fun k hk => (l4 k hk).2) hc hL fun k hk => mem_on.1 hk,[],hu,.nil⟩
  ·cases h2
 ·cases h
theorem adoN_ok {vs : List AV} {H' : AH} {v : AV} (h : adoN vs H = some (v,H')) {args : List Value} (hH : HR E H w0 w) (hA : All2 (AV.v E) vs args) :
  Keeps E H H' ∧ Calls Tryz.prog 147 args.toArray w (Ret fun u w' => Post E H H' w0 v u w') := by
 unfold adoN at h
 split at h
 ·rename_i b o m
  obtain ⟨a1,h1⟩ := cnd_some h
  clear h
  obtain rfl := beq_of a1
  split at h1
  ·rename_i z hz
   split at h1
   ·rename_i V0 p L0 q H1 hV hL hw
    obtain ⟨a2,h2⟩ := and_some h1
    obtain ⟨a3,h3⟩ := and_some h2
    obtain ⟨a4,h3'⟩ := and_some h3
    obtain ⟨a6,h4⟩ := cnd_some h3'
    clear h1 h2 h3 h3'
    split at h4
    ·rename_i m2 hr
     obtain ⟨a5,h5⟩ := cnd_some h4
     injection h5 with h5; injection h5 with g1 g2; subst g1; subst g2
     match args,hA with
     |[a0,a1],.cons hb (.cons ha .nil) =>
      obtain ⟨B,S,e1,rfl⟩ := hb
      obtain ⟨rfl,_⟩ := ha
      obtain ⟨Y,SY,cap,LB,SL,ps,k1,k2,k3,k4,k5,k6,k7,k8,k9,k10,ho,hd,hq⟩ := opn_ok hH hz e1
      obtain ⟨K,l1,⟨s,X,x1,x2,x3,x4,x5⟩,l3,l4⟩ := hH.ls _ _ _ _ k6 k5
      obtain ⟨C,T',hBx,hlen,hk⟩ := hH.wr hw e1 (cs := [.slice (some ⟨Y,z.oy,none⟩) (z.n - 1) cap]) (.cons ⟨Y,SY,z.oy,cap,k1,rfl,k2,Nat.le_trans (Nat.pred_le _) k3,.inr rfl,by omega⟩ .nil)
      have eL := lastP_ok hL
      have eV := lastP_ok hV
      have hl0 : L0.length = z.n - 1 := by rw [eL] at k10; simp at k10; omega
      have hqg : z.L.getD (z.n - 1) (0,0) = q := by rw [eL,← hl0]; simp [List.getD_eq_getElem?_getD]
      have epq : p.1 = q.2 := beq_of a2
      have et : Tx.t p.2 = Tx.t m := by rw [← Tx.up p.2,← Tx.up m,beq_of a3]
      have et2 : Tx.t m2 = Tx.t m := by rw [← Tx.up m2,← Tx.up m,beq_of a5]
      obtain ⟨Sq,hqE⟩ := hq (z.n - 1) (by omega)
      rw [hqg] at hqE
      obtain ⟨u,y1,rfl,_⟩ := rd1 hH hr hqE
      have hL' : LsN K w LB (V0 ++ [((z.L.getD (z.n - 1) (0,0)).2,m)]) := by
       refine ⟨s,X,x1,x2,x3,x4,?_⟩
       rw [eV] at x5
       rw [hqg,← epq]
       simpa [et] using x5
      refine ⟨?_,?_⟩
      ·have ka := wr_keeps hw e1
       have kb := set_keeps (H := H1) (lb := z.lb) (o := .lst V0) k5
       exact ⟨Nat.le_trans ka.1 kb.1,fun x hx hE => (kb.2 x (Nat.lt_of_lt_of_le hx ka.1) hE).trans (ka.2 x hx hE)⟩
      ·rw [List.map_nil,List.nil_append]
       refine Ret.mono (bAdopt ho (by omega) hd hBx (by simp at hlen; omega) k3 (m := m) (by rw [Addr.add_lit]; simpa [et2] using y1) hL' (fun k hk => (l4 k hk).1) (fun p' hp' e => ?_) (l3 b (B,S) (Ne.symm k7) e1)) fun u w' ⟨hu,w1,c1,hB1,cK,K',hL1,hK1⟩ => ?_
       ·have := noneN_ok a4 (p'.2,p'.1) (List.mem_map_of_mem (f := fun x : Nat × Nat => (x.2,x.1)) hp')
        exact this (by rw [epq,← hqg]; exact e)
       ·have h1 := hk w1 c1 hB1
        have hg1 : H1.get z.lb = some (.lst z.V) := by
         obtain ⟨Tw,cw,lw,cw',aw,lw',ow,rfl⟩ := wr_put hw
         refine Eq.trans ?_ k6
         cases lw with
         |own => exact (AH.get_set _ _ _ _).trans (if_neg k7)
         |fam f e => exact (AH.get_set _ _ _ _).trans (if_neg k7)
         |ro => exact absurd rfl lw'
        exact ⟨E,En.le_refl _,fun _ _ h => .inl h,h1.lset hg1 k5 a6 l3 (fun k hk => (l4 k hk).2) cK hL1 hK1,[],hu,.nil⟩
    ·cases h4
   ·cases h1
  ·cases h1
 ·cases h
end
end
end Ev
end
section
namespace Ev
set_option autoImplicit false
open Go.RowKit
noncomputable section
def H00 : AH := ⟨0,.nil,.nil⟩
section
variable [Tx]
theorem HR.start {w : World} (h : WP w) : HR (fun _ => none) H00 (W0.all w) w := by
 refine ⟨fun b p he => (by cases he),⟨h,id⟩,Kept.refl _,fun b p he => (by cases he),fun b o hg => ?_,fun f p hf => ?_,fun b T c f e hg => ?_,fun b T c f e ha => ?_,fun b T c l B S _ he => (by cases he),fun b es cl B S _ he => (by cases he),fun b b' B S S' _ he => (by cases he),fun b v B S _ he => (by cases he)⟩
 ·cases hg
 ·cases hf
 ·cases hg
 ·cases ha
end
theorem names_ok : Tryz.prog.funcs.all (fun fn => !(fn.name == "runtime.NumGoroutine")) = true := by decide +kernel
section
variable [Tx]
theorem fnC_ok {f : Nat} {fn : Func} {cf : CF} (Z : List Nat) (hf : Tryz.prog.funcs[f]? = some fn) (hz : (Nat.ble (fn.params.size + fn.nfree) 256 && Z.all fun t => Nat.ble (fn.params.size + fn.nfree) t) = true) (h : compF Tryz.prog 0 Z fn = some cf) : FnR Tryz.prog 0 f cf := compF_ok (by kernel_rfl) names_ok hf hz h
end
end
end Ev
end
section
namespace Ev
open Go.RowKit
variable {w w' : World} {bb y off cap n LB : Nat} {ps ids : Nat → Nat}
theorem bNames (h : Opn w bb y off cap n ps ids LB) {nm : Nat → Str} (hn : ∀ j,j < n → w.cell? ((⟨ps j,0,none⟩ : Addr).add 2) = some (.string (Bs (nm j)))) : Calls Tryz.prog 127 #[.pointer (some ⟨bb,0,none⟩)] w
  (Ret fun v w' => Ext w w' ∧ ∃ s : Sl,v = s.v ∧ Row [] w' s 1 (((List.range n).map nm).map sc)) := by
 refine build_builder_names.ok _ ?_
 unfold build_builder_names.vc
 have hf := h.few
 refine ⟨_,h.op,fun l x w' => ∃ k : Nat,x = (k : Int) ∧ k ≤ n ∧ Own (List.range w.heap.size) w' l 1 9 (((List.range k).map nm).map sc) ∧ Ext w w',fun _ x _ => n - x.toNat,⟨0,rfl,Nat.zero_le _,Own.nil _ _ _ _,Chg.refl _ _⟩,?_⟩
 rintro l _ w8 ⟨k,rfl,hk,ho,hE⟩
 rw [Int.toNat_natCast]
 have h8 := h.ext hE
 refine ⟨fun hlt => ?_,fun hge => ?_⟩
 ·have hk' : k < n := by have : (k : Int) < (n : Int) := hlt; omega
  refine ⟨⟨by omega,hlt⟩,_,rfl,_,h8.nd k hk',_,rfl,_,Ext.cell hE (hn k hk'),fun w31 B hN hE31 hB => ?_⟩
  have hE' := hE.trans hE31
  have hz := hE'.size
  have hx : Row [] w31 (Sl.mk (some ⟨B,0,none⟩) 1 1) 1 (([nm k] : List Str).map sc) := Box.rowStr (l := [nm k]) hB (by simp) (by simp)
  refine pushStr (ho.ext hE31) (fun b hb => by have := List.mem_range.1 hb; omega) hx (by simp; omega) (by simp) fun r w33 ho' hC => ⟨r,rfl,⟨by omega,by omega⟩,⟨k + 1,by omega,by omega,?_,?_⟩,by dsimp only; omega⟩
  ·rw [List.range_succ,List.map_append]; exact ho'
  ·exact Chg.fresh hE' hC fun b hb => by
    have := ho.tail b (by simpa using hb)
    simp at this; omega
 ·have hkn : k = n := by have : ¬ (k : Int) < (n : Int) := hge; omega
  subst hkn
  exact ⟨hE,l,rfl,ho.row.less (by simp)⟩
theorem impl0 {s : Sl} {l : List Str} {but : Str} (h : Row [] w s 1 (l.map sc)) (hl : 0 < l.length) (he : l.getD (l.length - 1) [] = but) : Calls Tryz.prog 134 #[s.v,.string (Bs but)] w (Ret fun v w' => Ext w w' ∧ v = .int .i64 0) := by
 refine stack_Implied.ok _ _ ?_
 unfold stack_Implied.vc
 have hs := h.strs
 refine ⟨fun i w' => i = 0 ∧ Ext w w',fun _ _ => 0,⟨rfl,Chg.refl _ _⟩,?_⟩
 rintro _ w1 ⟨rfl,hE⟩
 refine ⟨fun _ => ?_,fun h => absurd (show (0 : Int) < (s.n : Int) by omega) h⟩
 obtain ⟨p,hp,hc⟩ := (h.ext hE).str (show l.length - 1 < l.length by omega)
 rw [show ((s.n : Int) - 1 - 0).toNat = l.length - 1 by omega]
 refine ⟨⟨by omega,by omega⟩,⟨by omega,by omega⟩,⟨by omega,by omega⟩,p,hp,_,hc,true,fun hx => absurd he hx,fun w2 hE2 => ⟨fun _ => ⟨hE.trans hE2,rfl⟩,fun hx => absurd he hx.1⟩⟩
theorem putAt_same {cs : List Value} {k : Nat} {v : Value} (h : cs[k]? = some v) : putAt cs k [v] = cs := by
 show cs.set k v = cs
 refine List.ext_getElem? fun i => ?_
 by_cases e : k = i
 ·subst e
  rw [List.getElem?_set_self (List.getElem?_eq_some_iff.1 h).1,h]
 ·rw [List.getElem?_set_ne e]
theorem Opn.cell3 (h : Opn w bb y off cap n ps ids LB) {T : TypeId} {cs : List Value} (hb : Box w bb T cs) : cs[3]? = some (.slice (some ⟨y,off,none⟩) n cap) := by
 have h1 := h.op
 rw [Addr.add_lit] at h1
 have h3 := Lib.cell_of_heap (show w.heap[bb]? = some (.cells cs.toArray T (0,0)) from hb) (0 + 3)
 rw [h1] at h3
 simpa using h3.symm
noncomputable section
def cfS : CF := ((Tryz.prog.funcs[129]?).bind fun f => compF Tryz.prog 0 [] f).getD ⟨0,0,.skip,[]⟩
def ftS (f : Nat) : Option CF := cond (Nat.beq f 129) (some cfS) none
theorem ftS_ok [Tx] : ∀ f cf,ftS f = some cf → FnR Tryz.prog 0 f cf := fun f cf h => by
 unfold ftS at h
 cases hb : Nat.beq f 129 with
 |false => rw [hb] at h; cases h
 |true =>
  rw [hb] at h; injection h with h; subst h
  obtain rfl := Nat.eq_of_beq_eq_true hb
  exact fnC_ok [] Tryz.func129 (by kernel_rfl) (by kernel_rfl)
def retS (r : Option (AV × AH)) : Option AV := match r with
 |some (v,_) => some v
 |none => none
theorem sortsR : retS (runF spM ftS 5 129 [.c (.i .i64 2)] H00) = some (.c (.s ((sortStr.getD 2 []).map UInt8.toNat))) := by kernel_rfl
theorem sortsC (hT : Sp w) : Calls Tryz.prog 129 #[.int .i64 2] w (Ret fun v w' => Ext w w' ∧ v = .string (Bs (sortStr.getD 2 []))) := by
 letI T : Tx := ⟨fun _ => [97],fun _ => ⟨97,[],rfl,by decide,by decide,by decide,by decide⟩,fun _ => rfl⟩
 have h := sortsR
 unfold retS at h
 split at h
 ·rename_i v H hr
  injection h with h; subst h
  obtain ⟨_,hb⟩ := run_sound ftS_ok (spM_ok 0) 5 hr
  refine (hb (fun g hg => absurd hg (Nat.not_lt_zero g)) (HR.start hT) (args := [.int .i64 2]) (.cons (by rfl) .nil)).2.mono fun e w' hx => ?_
  cases e with
  |returned u =>
   obtain ⟨E',_,_,h3,hu,_⟩ := hx
   refine ⟨h3.ch.ext,?_⟩
   rw [hu,List.map_map]
   conv => rhs; rw [← List.map_id (sortStr.getD 2 [])]
   exact congrArg (fun z => Value.string (Bs z)) (List.map_congr_left fun b _ => by simp)
  |_ => exact hx.elim
 ·cases h
end
theorem isC (hT : Sp w) (nm : Str) : Calls Tryz.prog 100 #[.string (Bs nm),.int .i64 2] w (Ret fun v w' => Ext w w' ∧ ∃ b : Bool,v = .bool b) := by
 refine stack_Is.ok _ _ ?_
 unfold stack_Is.vc
 refine CallK.exact (sortsC hT) fun w1 hE1 => ⟨_,rfl,?_⟩
 have h1 := ascii_sort 2 (by decide)
 exact CallK.exact (amgC (hT.ext hE1) _ nm h1.1 (by omega)) fun w2 hE2 => ⟨_,rfl,hE1.trans hE2,_,rfl⟩
theorem bPopM (h : Opn w bb y off cap n ps ids LB) {T : TypeId} {cs : List Value} (hb : Box w bb T cs) (hl : 4 ≤ cs.length) (hc : n ≤ cap) {m : Nat} (hm : m ≤ n) : Calls Tryz.prog 62 #[.pointer (some ⟨bb,0,none⟩),.int .i64 (m : Int)] w
  (Ret fun v w' => Chg [bb] w w' ∧ v = .tuple #[]) := by
 refine build_builder_pop.ok _ _ ?_
 unfold build_builder_pop.vc
 have hf := h.few
 intro w3 c3
 have h3 := h.ext c3
 refine ⟨_,h3.op,_,h3.op,⟨by dsimp only; omega,by dsimp only; omega⟩,⟨by dsimp only; omega,by dsimp only; omega⟩,fun w6 c6 => ⟨bb,3,T,cs,Addr.add_lit ..,(hb.ext c3).ext c6,by omega,by simp,fun w11 c11 hB => ⟨((c3.trans c6).mono (by simp)).trans c11,rfl⟩⟩⟩
theorem bPop0 (h : Opn w bb y off cap n ps ids LB) {T : TypeId} {cs : List Value} (hb : Box w bb T cs) (hl : 4 ≤ cs.length) (hc : n ≤ cap) : Calls Tryz.prog 62 #[.pointer (some ⟨bb,0,none⟩),.int .i64 0] w
  (Ret fun v w' => v = .tuple #[] ∧ Chg [bb] w w' ∧ Box w' bb T cs) := by
 refine build_builder_pop.ok _ _ ?_
 unfold build_builder_pop.vc
 have hf := h.few
 intro w3 c3
 have h3 := h.ext c3
 have e : (max 0 ((n : Int) - 0)).toNat = n := by omega
 refine ⟨_,h3.op,_,h3.op,⟨by dsimp only; omega,by dsimp only; omega⟩,⟨by dsimp only; omega,by dsimp only; omega⟩,fun w6 c6 => ⟨bb,3,T,cs,Addr.add_lit ..,(hb.ext c3).ext c6,by omega,by simp,fun w11 c11 hB => ⟨rfl,((c3.trans c6).mono (by simp)).trans c11,?_⟩⟩⟩
 rw [show Sl.v (Sl.cut ⟨some ⟨y,off,none⟩,n,cap⟩ 1 0 (max 0 ((n : Int) - 0)).toNat cap) = .slice (some ⟨y,off,none⟩) n cap by rw [e]; unfold Sl.cut Sl.v; simp [Addr.add_zero'],putAt_same (h.cell3 hb)] at hB
 exact hB
theorem bImply (h : Opn w bb y off cap n ps ids LB) (hn : 0 < n) {nm : Nat → Str} (hnm : ∀ j,j < n → w.cell? ((⟨ps j,0,none⟩ : Addr).add 2) = some (.string (Bs (nm j)))) {T : TypeId} {cs : List Value} (hb : Box w bb T cs) (hl : 4 ≤ cs.length) (hc : n ≤ cap) : Calls Tryz.prog 109 #[.pointer (some ⟨bb,0,none⟩),.string (Bs (nm (n - 1)))] w
  (Ret fun v w' => v = .tuple #[] ∧ Chg [bb] w w' ∧ Box w' bb T cs) := by
 refine build_builder_imply.ok _ _ ?_
 unfold build_builder_imply.vc
 refine CallK.ext (bNames h hnm) fun v w4 c4 ⟨s,hv,hr⟩ => ⟨s,hv,?_⟩
 refine CallK.exact (impl0 hr (by simpa using hn) (by
  simp only [List.length_map,List.length_range]
  rw [List.getD_eq_getElem?_getD,List.getElem?_map,List.getElem?_range (by omega)]; rfl)) fun w6 c6 => ⟨_,rfl,?_⟩
 have c := c4.trans c6
 refine CallK.chg (F := [bb]) (R := fun v w' => v = .tuple #[] ∧ Box w' bb T cs) (Ret.mono (bPop0 (h.ext c) (hb.ext c) hl hc) fun v w' ⟨a,b,c⟩ => ⟨b,a,c⟩) (by simp) fun v w7 c7 ⟨hv,hB⟩ => ⟨hv,rfl,(c.mono (by simp)).trans c7,hB⟩
end Ev
end
section
theorem oper_round {F : Fence} {n l : Nat} {P : Program} {o : Oper} {a : Act} {w : World} {K : Act → World → Prop} {Q : Exit → Act → World → Prop} (hF : F.round = none) (hd : ∀ c,o.op ≠ .defer c) (h : o.wpIn F n P a w K Q) : o.wpIn (F.inRound l) n P a w K Q := by
 unfold Oper.wpIn at h ⊢
 rw [hF,Oper.semAt_none] at h
 rw [Fence.inRound_round,Oper.semAt_some _ _ _ hd]
 exact h
theorem ops_round {F : Fence} {n l : Nat} {P : Program} {ops : Array Oper} {Q : Exit → Act → World → Prop} (hF : F.round = none) (hd : ∀ (i : Nat) (o : Oper),ops[i]? = some o → ∀ c,o.op ≠ .defer c) :
  ∀ (is : List Nat) (a : Act) (w : World),wpOpsIn F n P ops Q is a w → wpOpsIn (F.inRound l) n P ops Q is a w
 |[],_,_,h => h
 |i :: is,a,w,h => by
  rw [wpOpsIn_cons] at h ⊢
  unfold wpOpIn at h ⊢
  cases hi : ops[i]? with
  |none => rw [hi] at h; exact ops_round hF hd is a w h
  |some o =>
   rw [hi] at h
   dsimp only at h ⊢
   split
   ·rename_i hw
    rw [if_pos hw] at h
    exact Oper.wpIn_mono (fun a w h => ops_round hF hd is a w h) (oper_round hF (hd i o hi) h)
   ·rename_i hw
    rw [if_neg hw] at h
    exact ⟨h.1,ops_round hF hd is _ w h.2⟩
theorem region_round {F : Fence} {n l : Nat} {P : Program} {id : Nat} {ops : Array Oper} {Q : Exit → Act → World → Prop} {a : Act} {w : World} (hF : F.round = none) (hd : ∀ (i : Nat) (o : Oper),ops[i]? = some o → ∀ c,o.op ≠ .defer c) (hm : P.follows .mixedOrders = true)
  (h : wpAnyIn F n P .any ops Q ops.size (Array.replicate ops.size false) a { w with drawn := w.drawn + 1 }) : (Code.region id ops true).wpIn (F.inRound l) n P Q a w := by
 refine wpIn_region_draw fun t => ops_round hF hd _ _ _ ?_
 rw [hm]
 exact wpAnyIn_sound _ _ _ _ _ h
def noDefer (o : Oper) : Bool := match o.op with | .defer _ => false | _ => true
theorem region_round' {F : Fence} {n l : Nat} {P : Program} {id : Nat} {ops : Array Oper} {Q : Exit → Act → World → Prop} {a : Act} {w : World} (hF : F.round = none) (hd : ops.all noDefer = true) (hm : P.follows .mixedOrders = true)
  (h : wpAnyIn F n P .any ops Q ops.size (Array.replicate ops.size false) a w.drew) : (Code.region id ops true).wpIn (F.inRound l) n P Q a w := by
 refine region_round hF (fun i o hi c hc => ?_) hm h
 have := (Array.all_eq_true'.1 hd) o (Array.mem_of_getElem? hi)
 unfold noDefer at this
 rw [hc] at this
 cases this
def NoOut (Q : Exit → Act → World → Prop) : Exit → Act → World → Prop := fun e a w => e ≠ .outgrown ∧ Q e a w
theorem noOut {Q : Exit → Act → World → Prop} : ¬ LetsOut (NoOut Q) := fun ⟨_,_,h⟩ => h.1 rfl
theorem rowsIn_wide {n : Nat} {P : Program} {row : String} {args : Array Value} {w : World} {R : Value → World → Prop} (h : Rows P row args w R) : RowsIn Fence.wide n P row args w R :=
 fun c cs _ => let ⟨v,w',r,s⟩ := h c cs; ⟨v,w',r,stepsIn_wide.2 s⟩
theorem wpIn_of_wp {n : Nat} {P : Program} {o : Oper} {a : Act} {w : World} {K K' : Act → World → Prop} {Q : Exit → Act → World → Prop} (hk : ∀ a w,K a w → K' a w) (h : o.wp P a w K (NoOut Q)) : o.wpIn Fence.wide n P a w K' Q := by
 refine ⟨fun _ _ => trivial,?_⟩
 unfold Oper.wp at h
 rw [show Fence.wide.round = none from rfl,Oper.semAt_none]
 generalize (execOp a.eval o).run P w = r at h ⊢
 have hd : Fence.wide.depth.isSome = true → 1 ≤ n := fun h => by cases h
 have hc : ∀ {f : FuncId} {args : Array Value} {w' : World},o.upon P a K (NoOut Q) (.ok (.enter f args) w') → o.uponIn Fence.wide n P a K' Q (.ok (.enter f args) w') := fun h => by
  refine ⟨hd,callsIn_wide.2 (Calls.mono h fun e w h => ?_)⟩
  cases e with
  |returned v => exact hk _ _ h
  |panicked c => exact h.2
  |outgrown => exact absurd h noOut
 cases r with
 |ok v w' =>
  cases v with
  |value v => exact hk _ _ h
  |skip => exact hk _ _ h
  |defer d => exact hk _ _ h
  |enter f args => exact hc h
  |row r args => exact ⟨hd,rowsIn_wide (Rows.mono h fun _ _ => hk _ _)⟩
  |_ => exact h.elim
 |halt x w' =>
  cases x with
  |panic v => exact h.2
  |_ => exact h.elim
theorem anyIn_of {n : Nat} {P : Program} {md : Region.Mode} {ops : Array Oper} {Q : Exit → Act → World → Prop} : ∀ (fuel : Nat) (listed : Array Bool) (a : Act) (w : World),wpAny P md ops (NoOut Q) fuel listed a w → wpAnyIn Fence.wide n P md ops Q fuel listed a w
 |0,_,_,_,h => ⟨h.1,h.2.2⟩
 |fuel + 1,listed,a,w,h => by
  refine ⟨fun e => (h.1 e).2,fun i hi => ?_⟩
  have h2 := h.2 i hi
  unfold wpOp at h2
  unfold wpOpIn
  cases ho : ops[i]? with
  |none => rw [ho] at h2; exact anyIn_of fuel _ _ _ h2
  |some o =>
   rw [ho] at h2
   dsimp only at h2 ⊢
   split
   ·rename_i hw
    rw [if_pos hw] at h2
    rcases h2 with h2 | h2
    ·exact wpIn_of_wp (fun a w h => anyIn_of fuel _ _ _ h) h2
    ·exact absurd h2.2 noOut
   ·rename_i hw
    rw [if_neg hw] at h2
    exact ⟨fun _ _ => trivial,anyIn_of fuel _ _ _ h2⟩
theorem region_wide {n l : Nat} {P : Program} {id : Nat} {ops : List Oper} {Q : Exit → Act → World → Prop} {a : Act} {w : World} (hd : ops.toArray.all noDefer = true) (hm : P.follows .mixedOrders = true)
  (h : ∀ w',Ext w w' → PR P ops.toArray (NoOut Q) (List.range 0) a w') : (Code.region id ops.toArray true).wpIn (Fence.wide.inRound l) n P Q a w :=
 region_round' rfl hd hm (anyIn_of _ _ _ _ (h w.drew (Chg.refl [] w).drew _ _ (by simp) (fun i hi => by
  simp [Array.getD_eq_getD_getElem?,Array.getElem?_replicate]
  split <;> simp) (by simp)))
end
section
theorem list_round {n l : Nat} {P : Program} {ops : Array Oper} {Q : Exit → Act → World → Prop} : ∀ (os : List Oper),os.all noDefer = true → ∀ (a : Act) (w : World),wpList P ops (NoOut Q) os a w → wpListIn (Fence.wide.inRound l) n P ops Q os a w
 |[],_,_,_,h => h.2
 |o :: os,hd,a,w,h => by
  obtain ⟨h1,h2⟩ : noDefer o = true ∧ os.all noDefer = true := by simpa using hd
  unfold wpList at h
  unfold wpListIn
  split
  ·rename_i hw
   rw [if_pos hw] at h
   rcases h with h | h
   ·exact oper_round rfl (fun c hc => by unfold noDefer at h1; rw [hc] at h1; cases h1) (wpIn_of_wp (fun a w h => list_round os h2 a w h) h)
   ·exact absurd h.2 noOut
  ·rename_i hw
   rw [if_neg hw] at h
   exact ⟨fun _ _ => trivial,list_round os h2 _ _ h⟩
section
variable {P : Program} {Q : Exit → Act → World → Prop} {F : Fence} {m n r : Nat} {w wa : World} {L : List (Nat × Value)} {G N : List Nat} {bs : List BX} {V : Prop}
theorem irS {c d : Code} (k : Go n L wa w G bs N V (c.wpIn F m P (Exit.then (d.wpIn F m P Q) Q))) : Go n L wa w G bs N V ((Code.seq c d).wpIn F m P Q) := fun a s hv => wpIn_seq (k a s hv)
theorem irR {id : Nat} {l : List Oper} (k : Go n L wa w G bs N V (wpList P l.toArray (NoOut Q) l)) (hd : l.all noDefer = true := by kernel_rfl) : Go n L wa w G bs N V ((Code.region id l.toArray false).wpIn (Fence.wide.inRound r) m P Q) := fun a s hv => wpIn_region_lit (list_round l hd a w (k a s hv))
theorem irD {id : Nat} {l : List Oper} (k : ∀ w',Go n L wa w' G bs N V (PR P l.toArray (NoOut Q) (List.range 0))) (hd : l.toArray.all noDefer = true := by kernel_rfl) (hm : P.follows .mixedOrders = true := by kernel_rfl) : Go n L wa w G bs N V ((Code.region id l.toArray true).wpIn (Fence.wide.inRound r) m P Q) := fun a s hv => region_wide hd hm fun w' hE => k w' a (s.ext hE) hv
theorem irN (k : Go n L wa w G bs N V (Q .normal)) : Go n L wa w G bs N V (NoOut Q .normal) := fun a s hv => ⟨by simp,k a s hv⟩
theorem irB {i : Nat} {c : Code} (k : Go n L wa w G bs N V (c.wpIn F m P (Exit.inBlock i Q))) : Go n L wa w G bs N V ((Code.block i c).wpIn F m P Q) := fun a s hv => wpIn_block (k a s hv)
theorem irT {x : Operand} {c d : Code} (k : Go n L wa w G bs N V (c.wpIn F m P Q)) (hx : opv L x = some (.bool true)) : Go n L wa w G bs N V ((Code.cond x c d).wpIn F m P Q) := fun a s hv => wpIn_cond_true (s.ag.opv hx) (k a s hv)
theorem irF {x : Operand} {c d : Code} (k : Go n L wa w G bs N V (d.wpIn F m P Q)) (hx : opv L x = some (.bool false)) : Go n L wa w G bs N V ((Code.cond x c d).wpIn F m P Q) := fun a s hv => wpIn_cond_false (s.ag.opv hx) (k a s hv)
theorem irK (k : Go n L wa w G bs N V (Q .normal)) : Go n L wa w G bs N V (Code.skip.wpIn F m P Q) := fun a s hv => wpIn_skip (k a s hv)
theorem irE (k : Go n L wa w G bs N V (Q .ret)) : Go n L wa w G bs N V (Code.ret.wpIn F m P Q) := fun a s hv => wpIn_ret (k a s hv)
end
end
section
open Go.RowKit Go.Shelf Go.Proofs
attribute [local go_sem] Oper.semAt_some
def bkw (zs : List (Option Addr)) (k : Nat) : Nat × Option Addr := (zs.length - 1 - k,zs[zs.length - 1 - k]?.getD none)
abbrev encB (x : Nat × Option Addr) : Array Value := #[Value.int .i64 (x.1 : Int),Value.pointer x.2]
set_option maxRecDepth 100000 in
set_option maxHeartbeats 2000000 in
theorem backward1_in (F : Fence) (n : Nat) (h8 : F.fn 157) (hro : F.round = none) (hn : 1 ≤ n) (l Bs n₀ b off cap : Nat) (zs : List (Option Addr)) (hreach : zs.length * 8 ≤ 140737488351232) (hb : b < n₀) (J Jx : List Nat → World → Prop)
  (hY : ∀ pre x W,J pre W → pre.length < zs.length → YieldAt F (n - 1) Tryz.prog l (encB (bkw zs x)) W fun e W' =>
   (e = .returned (.bool true) ∧ J (pre ++ [x]) W' ∧ Below n₀ W W') ∨ (e = .returned (.bool false) ∧ Jx (pre ++ [x]) W'))
  (W : World) (hBs : W.cell? ⟨Bs,0,none⟩ = some (.slice (some ⟨b,off,none⟩) zs.length cap)) (hBs' : Bs < n₀) (hc : ∀ j,j < zs.length → W.cell? ⟨b,off + j,none⟩ = some (.pointer (zs[j]?.getD none))) (h0 : J [] W) :
  CallsIn F n Tryz.prog 157 #[.func (.yield l) #[] #[],.pointer (some ⟨Bs,0,none⟩)] W fun e W' => (∃ v,e = .returned v) ∧
   ((∃ ys,ys = List.range zs.length ∧ J ys W') ∨ (∃ pre,(∃ k,k ≤ zs.length ∧ pre = List.range k) ∧ Jx pre W')) := by
 refine callsIn_of_wp Tryz.func157 rfl h8 ?_ hro
 simp only [Tryz.ntmps157,List.size_toArray,List.length_cons,List.length_nil,Nat.reduceAdd,Nat.reduceSub,Array.replicate_succ,Array.replicate_zero,List.push_toArray,List.append_toArray,List.nil_append,List.cons_append]
 gi_wp2
 gi_loopw [3] (fun i wr => ∃ k : Nat,k ≤ zs.length ∧ i = .int .i64 ((zs.length : Int) - 1 - (k : Int)) ∧ J (List.range k) wr ∧ Below n₀ W wr)
  (fun i _ => (intOf i + 1).toNat)
 case atStart => exact ⟨0,Nat.zero_le _,by simp,h0,Below.refl _ _⟩
 case round =>
  obtain ⟨k,hk,rfl,hJs,hnx⟩ := hrel
  have hBx : wr.cell? ⟨Bs,0,none⟩ = some (.slice (some ⟨b,off,none⟩) zs.length cap) := (hnx.cell hBs').trans hBs
  by_cases hlt : k < zs.length
  ·have hcx : wr.cell? ⟨b,off + (zs.length - 1 - k),none⟩ = some (.pointer (zs[zs.length - 1 - k]?.getD none)) := (hnx.cell (p := ⟨b,off + (zs.length - 1 - k),none⟩) hb).trans (hc _ (by omega))
   obtain ⟨fn,tmps,assign,body,hy,hR⟩ := hY _ k wr hJs (by rw [List.length_range]; exact hlt)
   dsimp only [encB,bkw] at hy
   obtain ⟨m,hm⟩ : ∃ m : Nat,zs.length - 1 - k = m := ⟨_,rfl⟩
   have hmi : (zs.length : Int) - 1 - (k : Int) = (m : Int) := by omega
   rw [hm] at hcx hy
   rw [hmi]
   gi_wp2
   refine hR.mono ?_
   rintro e W3 (⟨rfl,hJ3,hk3⟩ | ⟨rfl,hJx3⟩)
   ·gi_wp2
    go_roundw
    case rel => exact ⟨k + 1,by omega,by simp; omega,by rw [List.range_succ]; exact hJ3,hnx.trans hk3⟩
    case measure => simp [intOf]
   ·gi_wp2
    refine bodyPost_ret (results_none rfl _ _ _) rfl ?_
    exact ⟨⟨_,rfl⟩,.inr ⟨_,⟨k + 1,by omega,List.range_succ.symm⟩,hJx3⟩⟩
  ·obtain rfl : k = zs.length := by omega
   have hmi : (zs.length : Int) - 1 - (zs.length : Int) = -1 := by omega
   rw [hmi]
   gi_wp2
   go_end0
   exact ⟨⟨_,rfl⟩,.inl ⟨_,rfl,hJs⟩⟩
set_option maxHeartbeats 1000000 in
theorem backward_in (F : Fence) (n : Nat) (h6 : F.fn 133) (hro : F.round = none) (a : Option Addr) (len cap : Nat) (w : World) :
  CallsIn F n Tryz.prog 133 #[.slice a len cap] w fun e w' => e = .returned (.func (.func 157) #[] #[.pointer (some ⟨w.heap.size,0,none⟩)]) ∧ w' = w.alloc (.cells #[.slice a len cap] 54) := by
 refine callsIn_of_wp Tryz.func133 rfl h6 ?_ hro
 simp only [Tryz.ntmps133,List.size_toArray,List.length_cons,List.length_nil,Nat.reduceAdd,Nat.reduceSub,Array.replicate_succ,Array.replicate_zero,List.push_toArray,List.append_toArray,List.nil_append,List.cons_append]
 gi_wp2
 go_ret
 exact ⟨rfl,rfl⟩
theorem backward_stops (F : Fence) (n : Nat) (h8 : F.fn 157) (hro : F.round = none) (hn : 1 ≤ n) (Bs n₀ b off cap : Nat) (zs : List (Option Addr)) (hreach : zs.length * 8 ≤ 140737488351232) (w : World) (hBs : Bs < w.heap.size) (hBs' : Bs < n₀) (hb : b < n₀) (hn₀ : n₀ ≤ w.heap.size)
  (hc : w.cell? ⟨Bs,0,none⟩ = some (.slice (some ⟨b,off,none⟩) zs.length cap)) (hI : ∀ j,j < zs.length → w.cell? ⟨b,off + j,none⟩ = some (.pointer (zs[j]?.getD none))) :
  SeqStopsK F n Tryz.prog 157 #[.pointer (some ⟨Bs,0,none⟩)] (fun k : Nat => encB (bkw zs k)) (Below n₀) (fun ys => ys = List.range zs.length)
   (fun pre => ∃ k,k ≤ zs.length ∧ pre = List.range k) zs.length w := fun l J Jx W hW _ _ hY h0 =>
 backward1_in F n h8 hro hn l Bs n₀ b off cap zs hreach hb J Jx hY W ((hW.cell (p := ⟨Bs,0,none⟩) hBs).trans hc) hBs' (fun j hj => (hW.cell (p := ⟨b,off + j,none⟩) (by simp; omega)).trans (hI j hj)) h0
end
end Go.Proofs.YtenokfdkckhhiaaGreatDoor
