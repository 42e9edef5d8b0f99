/-
  What the proof of the statement leans on: texts one behind the other.
-/
import Derived.Test.YtenokfdkckhhiaaGreatDoorQBuildNests4
import Derived.Test.YtenokfdkckhhiaaGreatDoorQBuildNestsGT
import Derived.Test.YtenokfdkckhhiaaGreatDoorQBuildNests2
import Derived.Test.YtenokfdkckhhiaaGreatDoorQBuildNests0
import Derived.Test.YtenokfdkckhhiaaGreatDoorQBuildNestsGref04
import Derived.Test.YtenokfdkckhhiaaGreatDoorQBuildNestsGref09
import Derived.Test.YtenokfdkckhhiaaGreatDoorQBuildNestsGref10
import Derived.Test.YtenokfdkckhhiaaGreatDoorQBuildNestsGref11
import Derived.Test.YtenokfdkckhhiaaGreatDoorQBuildNestsGbld
import Derived.Test.YtenokfdkckhhiaaGreatDoorQBuildNestsGformat
import Derived.Test.YtenokfdkckhhiaaGreatDoorQBuildNestsGlaw14body
namespace Go.Proofs.YtenokfdkckhhiaaGreatDoor
section
namespace Ev
open Go.RowKit Go.Shelf Go.Proofs
attribute [local go_sem] Oper.semAt_some
theorem keepsFrom_chg {B bb : Nat} {W W' : World} {T : TypeId} {cs : List Value} (hb : Box W bb T cs) (c : Chg [bb] W W') : KeepsFrom B W W' := ⟨c.size,fun k o' _ hk ho => by
 rcases Classical.em (k ∈ [bb]) with hkm | hkm
 ·rw [List.mem_singleton.1 hkm,show W.heap[bb]? = _ from hb] at hk; injection hk with hk; subst hk; cases ho
 ·exact (c.block k (Array.getElem?_eq_some_iff.1 hk).1 hkm).trans hk⟩
theorem same_ext {bb : Nat} {W W' : World} {T : TypeId} {cs : List Value} (c : Chg [bb] W W') (hb : Box W bb T cs) (hb' : Box W' bb T cs) : Ext W W' := ⟨c.os,c.tape,c.output,c.size,fun k hk _ => by
 by_cases e : k = bb
 ·subst e; exact (show W'.heap[k]? = _ from hb').trans (show W.heap[k]? = _ from hb).symm
 ·exact c.block k hk (by simpa using e)⟩
set_option maxRecDepth 100000 in
set_option maxHeartbeats 4000000 in
theorem otherEnd_in (F : Fence) (m : Nat) (hF : Hid (F = Fence.wide)) (h5 : F.fn 148) (h6 : F.fn 133) (h8 : F.fn 157) (hro : F.round = none) (hm : 5 ≤ m) (bb y off cap len LB : Nat) (ps ids : Nat → Nat) (nm : Nat → Str) (but : Str) (T : TypeId) (cs : List Value) (w : World) (hT : Sp w)
  (h : Opn w bb y off cap len ps ids LB) (h0 : 0 < len) (hnm : ∀ j,j < len → w.cell? ((⟨ps j,0,none⟩ : Addr).add 2) = some (.string (Bs (nm j)))) (hbut : nm (len - 1) = but) (hd : ∀ j k,j < k → k < len → ids j ≠ ids k) (hb : Box w bb T cs) (hl : 4 ≤ cs.length) (hc : len ≤ cap) :
  CallsIn F m Tryz.prog 148 #[.pointer (some ⟨bb,0,none⟩),.string (Bs but)] w fun e W' => e = .returned (.tuple #[]) ∧ Chg [bb] w W' ∧ Box W' bb T (putAt cs 3 [.slice (some ⟨y,off,none⟩) (len - 1) cap]) := by
 have h1 : 1 ≤ m := by omega
 have hbb := hb.lt
 have hf := h.few
 have hop := h.op
 rw [Addr.add_lit] at hop
 have hy : y < w.heap.size := World.block_lt_of_cell? w _ (h.nd 0 h0)
 have hps : ∀ j,j < len → ps j < w.heap.size := fun j hj => World.block_lt_of_cell? w _ (h.no j hj)
 refine callsIn_of_wp_marks Tryz.func148 rfl h5 ?_ hro
 simp only [Tryz.ntmps148,List.size_toArray,List.length_cons,List.length_nil,Nat.reduceAdd,Nat.reduceSub,Array.replicate_succ,Array.replicate_zero,List.push_toArray,List.append_toArray,List.nil_append,List.cons_append]
 gi_wp2_with (gi_at_call 133; refine (backward_in F (m - 1) h6 hro _ _ _ _).mono ?_; rintro e w' ⟨rfl,rfl⟩)
 obtain ⟨w2,hw2⟩ : ∃ w2,((w.alloc (.cells #[.pointer (some ⟨bb,0,none⟩)] 52)).alloc (.cells #[.string (Bs but)] 9)).alloc (.cells #[.slice (some ⟨y,off,none⟩) len cap] 54) = w2 := ⟨_,rfl⟩
 have hB0 : Below w.heap.size w w2 := hw2 ▸ (((Below.refl _ w).alloc (Nat.le_refl _) _).alloc (by simp) _).alloc (by simp; omega) _
 have hs2 : w2.heap.size = w.heap.size + 3 := by rw [← hw2]; simp
 have bR := ((Boxed.new w 52 (.pointer (some ⟨bb,0,none⟩))).alloc (.cells #[.string (Bs but)] 9)).alloc (.cells #[.slice (some ⟨y,off,none⟩) len cap] 54)
 have bI := (Boxed.new (w.alloc (.cells #[.pointer (some ⟨bb,0,none⟩)] 52)) 9 (.string (Bs but))).alloc (.cells #[.slice (some ⟨y,off,none⟩) len cap] 54)
 have hc1 : w2.cell? ⟨w.heap.size + 2,0,none⟩ = some (.slice (some ⟨y,off,none⟩) len cap) := by rw [← hw2]; exact (World.cell?_alloc_at _ _ _ _ (by simp)).trans rfl
 rw [World.size_alloc] at bI
 rw [hw2] at bR bI ⊢
 obtain ⟨zs,hzs⟩ : ∃ zs : List (Option Addr),zs = (List.range len).map fun j => (some ⟨ps j,0,none⟩ : Option Addr) := ⟨_,rfl⟩
 have hzl : zs.length = len := by rw [hzs]; simp
 have hzg : ∀ j,j < len → zs[j]?.getD none = some ⟨ps j,0,none⟩ := fun j hj => by rw [hzs]; simp [hj]
 have hbk : ∀ x,bkw zs x = (len - 1 - x,some ⟨ps (len - 1 - x),0,none⟩) := fun x => by
  unfold bkw
  rw [hzl,hzg _ (by omega)]
 clear hzs
 refine wpIn_rangeFunc_ownG hro h1 (gf := 157) (lb := #[.pointer (some ⟨w.heap.size + 1 + 1,0,none⟩)]) rfl h8 (enters_of Tryz.func157 (by kernel_rfl) rfl)
  (backward_stops F (m - 1) h8 hro (by omega) (w.heap.size + 2) (w.heap.size + 3) y off cap zs (by omega) w2 (by omega) (by omega) (by omega) (by omega) (by rw [hzl]; exact hc1) (fun j hj => ?hz)) belowK_t (belowK_b (by omega)) (Below.refl _ _) (fun _ => rfl)
  (fun pre W => (∀ z ∈ pre,z ≠ 0) ∧ Below w2.heap.size w2 W)
  (fun c pre W => (c = .ret ∧ ∃ ini last,pre = ini ++ [last] ∧ (∀ z ∈ ini,z ≠ 0)) ∧ ∃ w1,((∃ ini,pre = ini ++ [0]) → Chg [bb] w w1 ∧ Box w1 bb T (putAt cs 3 [.slice (some ⟨y,off,none⟩) (len - 1) cap])) ∧ w.heap.size ≤ w1.heap.size ∧ Below w.heap.size w1 W)
  (OwnFrom.and (Own.from (fun s A B row hs hg hr => hs) _) (ownFrom_below (Nat.le_refl _) (Nat.le_refl _)))
  (fun c s A B row hs hg hr => ⟨hs.1,hs.2.elim fun w1 h => ⟨w1,h.1,h.2.1,ownFrom_below (β := Unit) (B := w2.heap.size) h.2.1 (by omega) () A B row h.2.2 hg hr⟩⟩)
  ⟨by simp,Below.refl _ _⟩
  (fun x => { tmps := #[.pointer (some ⟨bb,0,none⟩),.string (Bs but),.pointer (some ⟨w.heap.size,0,none⟩),.pointer (some ⟨w.heap.size + 1,0,none⟩),undef,.pointer ((some ⟨ps (len - 1 - x),0,none⟩)),.pointer (some ⟨bb,0,none⟩),.pointer (some ⟨bb,0,none⟩),.pointer (some ⟨bb,3,none⟩),.slice (some ⟨y,off,none⟩) len cap,.func (.func 157) #[] #[.pointer (some ⟨w.heap.size + 1 + 1,0,none⟩)],.int .i64 ((len - 1 - x : Nat) : Int),.pointer ((some ⟨ps (len - 1 - x),0,none⟩)),undef,undef,undef,undef,undef,undef,undef,undef,undef,undef,undef,undef,undef,undef,undef,undef,undef,undef,undef,undef,undef,undef,undef,undef,undef,undef,undef,undef],defers := [] }) ?assign ?body ?done ?stop
 case hz =>
  rw [hzl] at hj
  rw [hzg j hj]
  have := h.nd j hj
  rw [Addr.add_lit,Nat.mul_one] at this
  exact (hB0.cell (p := ⟨y,off + j,none⟩) hy).trans this
 case assign =>
  as_aux_lemma =>
   intro l x W K hK
   gi_wp2
   exact hK
 case body =>
  rintro l pre x W ⟨hpre,hB⟩ _
  obtain rfl : F = Fence.wide := hF.out
  have hBB := hB0.trans (hB.mono (by omega))
  have hE : Ext w W := Ext.of_below hBB
  dsimp only
  obtain ⟨j,hj⟩ : ∃ j,len - 1 - x = j := ⟨_,rfl⟩
  have hjl : j < len := by omega
  rw [hj]
  have bR' : Box W w.heap.size 52 [.pointer (some ⟨bb,0,none⟩)] := (hB.block _ (by omega)).trans bR
  have bI' : Box W (w.heap.size + 1) 9 [.string (Bs but)] := (hB.block _ (by omega)).trans bI
  have hO := h.ext hE
  have hbW := hb.ext hE
  have hnW : ∀ j,j < len → W.cell? ((⟨ps j,0,none⟩ : Addr).add 2) = some (.string (Bs (nm j))) := fun j hj => Ext.cell hE (hnm j hj)
  refine (?_ : Go 41 [(2,.pointer (some ⟨w.heap.size,0,none⟩)),(3,.pointer (some ⟨w.heap.size + 1,0,none⟩)),(5,.pointer (some ⟨ps j,0,none⟩))] W W [] [(w.heap.size,52,[.pointer (some ⟨bb,0,none⟩)]),(w.heap.size + 1,9,[.string (Bs but)])] [] True _) _ ⟨⟨rfl,rfl,fun t v hv => ?_⟩,Chg.refl _ _,fun b hb => ?_,by simp,by simp,by simp⟩ trivial
  ·by_cases hjb : nm j = but
   ·refine gH (V := ∀ W1,Chg [] W W1 → W1.cell? ((⟨ps j,0,none⟩ : Addr).add 2) = some (.string (Bs (nm j))) ∧ ∀ W2,Chg [] W1 W2 → 
     CallK Tryz.prog 109 #[.pointer (some ⟨bb,0,none⟩),.string (Bs but)] W2 [w.heap.size] (fun v W3 => v = .tuple #[] ∧ ∀ W4,Chg [] W3 W4 → Opn W4 bb y off cap len ps ids LB ∧
      W4.cell? ((⟨bb,0,none⟩ : Addr).add 3) = some (Sl.v ⟨some ⟨y,off,none⟩,len,cap⟩) ∧ W4.cell? ((⟨ps j,0,none⟩ : Addr).add 0) = some (.int .i64 (ids j : Int)) ∧ I64 ((len : Int) - (j : Int)) ∧ ∀ W5,Chg [] W4 W5 →
      CallK Tryz.prog 62 #[.pointer (some ⟨bb,0,none⟩),.int .i64 ((len : Int) - (j : Int))] W5 [] (fun v W6 => v = .tuple #[] ∧ Chg [bb] W W6 ∧ (j = len - 1 → Box W6 bb T (putAt cs 3 [.slice (some ⟨y,off,none⟩) (len - 1) cap])))))
     (fun _ W1 c1 => ⟨Ext.cell c1 (hnW j hjl),fun W2 c2 => ?_⟩) ?_
    ·have e2 := c1.trans c2
     have hi := bImply (hO.ext e2) h0 (nm := nm) (fun j hj => Ext.cell e2 (hnW j hj)) (hbW.ext e2) hl hc
     rw [hbut] at hi
     have hne : w.heap.size ∉ [bb] := by simp; omega
     refine CallK.chg (F := [bb]) (R := fun v w' => v = .tuple #[] ∧ Box w' bb T cs) (Ret.mono hi fun v w' ⟨a,b,c⟩ => ⟨b,a,c⟩) (by simpa using hne) fun v W3 c3 ⟨hv,hB3⟩ => ⟨hv,fun W4 c4 => ?_⟩
     have e3 : Chg [bb] W W3 := (e2.mono (by simp)).trans c3
     have hO3 : Opn W3 bb y off cap len ps ids LB := hO.ext (same_ext e3 hbW hB3)
     have hO4 := hO3.ext c4
     refine ⟨hO4,hO4.op,hO4.no j hjl,⟨by omega,by omega⟩,fun W5 c5 => ?_⟩
     have hO5 := hO4.ext c5
     have hB5 := (hB3.ext c4).ext c5
     have e5 : Chg [bb] W W5 := (e3.trans (c4.mono (by simp))).trans (c5.mono (by simp))
     by_cases hjl1 : j = len - 1
     ·have e : (len : Int) - (j : Int) = 1 := by omega
      rw [e]
      exact CallK.chg (F := [bb]) (R := fun v w' => v = .tuple #[] ∧ Box w' bb T (putAt cs 3 [.slice (some ⟨y,off,none⟩) (len - 1) cap])) (Ret.mono (bPop hO5 h0 hB5 hl hc) fun v w' ⟨a,b,c⟩ => ⟨b,a,c⟩) (by simp) fun v W6 c6 ⟨hv,hB6⟩ => ⟨hv,e5.trans c6,fun _ => hB6⟩
     ·have e : (len : Int) - (j : Int) = ((len - j : Nat) : Int) := by omega
      rw [e]
      exact CallK.chg (F := [bb]) (bPopM hO5 hB5 hl hc (by omega)) (by simp) fun v W6 c6 hv => ⟨hv,e5.trans c6,fun h => absurd h hjl1⟩
    ·refine irB <| irS <| irS <| irD fun W1 => gT0 ?_
     refine gW 0 6 [] ?_
     refine gM ?_
     refine Proofs.YtenokfdkckhhiaaGreatDoor.g1 r_nilCheck ?_
     refine gF 2 Tryz.underlying56 ti_9 ?_
     refine gL Tryz.underlying9 ?_
     refine gB 1 Tryz.underlying9 ?_
     refine g2 r_seql ?_
     refine eT fun W2 => gZ <| irN <| tn ?_
     refine irT ?_ (by show some (Value.bool (decide (nm j = but))) = _; rw [decide_eq_true hjb])
     refine irS <| irR <| gT0 ?_
     refine gB 0 Tryz.underlying52 ?_
     refine gB 1 Tryz.underlying9 ?_
     refine gC [0] Tryz.func109 fun _ W3 => gQ ?_
     refine ge <| irN <| tn <| irS <| irD fun W4 => gT0 <| gA fun hO4 => ?_
     refine gW 0 13 [(11,rsU (.int .i64 (j : Int)))] ?_
     refine gB 0 Tryz.underlying52 ?_
     refine gB 0 Tryz.underlying52 ?_
     refine Proofs.YtenokfdkckhhiaaGreatDoor.g1 r_nilCheck ?_
     refine gF 3 Tryz.underlying60 ti_54 ?_
     refine gL Tryz.underlying54 ?_
     refine Proofs.YtenokfdkckhhiaaGreatDoor.g1 (fun hx0 => r_len hx0 Tryz.underlying54) ?_
     refine gB 0 Tryz.underlying52 ?_
     refine gM ?_
     refine Proofs.YtenokfdkckhhiaaGreatDoor.g1 r_nilCheck ?_
     refine gF 0 Tryz.underlying56 ti_3 ?_
     refine gL Tryz.underlying3 ?_
     refine yc rfl Tryz.func101 (fun w' hE _ => ?_) (fun _ _ h => ⟨(),h,trivial⟩) fun _ => ?_
     ·exact (bAt (hO4.ext hE) hjl fun k hk => hd k j hk hjl).mono fun e w'' hr => by
       cases e with
       |returned v => exact ⟨hr.1,hr.2⟩
       |_ => exact hr.elim
     refine g2s r_subI ?_
     refine eT fun W5 => ?_
     refine gO 13 <| gT0 ?_
     refine gC [] Tryz.func62 fun _ W6 => gQ <| geO ?_
     refine gZ <| irN <| tn <| irE <| tr <| br ?_
     intro a' s ⟨e6,hB6⟩
     show KeepsFrom _ W W6 ∧ _
     refine ⟨keepsFrom_chg hbW e6,⟨rfl,pre,x,rfl,hpre⟩,W6,fun ⟨ini,hi⟩ => ?_,?_,Below.refl _ _⟩
     ·obtain ⟨_,hx⟩ := List.append_inj' hi rfl
      injection hx with hx _
      subst hx
      exact ⟨(hE.mono (by simp)).trans e6,hB6 (by omega)⟩
     ·exact Nat.le_trans hBB.size e6.size
   ·have hx0 : x ≠ 0 := fun e => by
     subst e
     exact hjb (by rw [← hj]; exact hbut)
    refine gH (V := ∀ W1,Chg [] W W1 → W1.cell? ((⟨ps j,0,none⟩ : Addr).add 2) = some (.string (Bs (nm j))) ∧ ∀ W2,Chg [] W1 W2 → W2.cell? ((⟨ps j,0,none⟩ : Addr).add 2) = some (.string (Bs (nm j))) ∧
     CallK Tryz.prog 100 #[.string (Bs (nm j)),.int .i64 2] W2 [] (fun v W3 => ∃ b : Bool,v = .bool b ∧ Ext W W3))
     (fun _ W1 c1 => ⟨Ext.cell c1 (hnW j hjl),fun W2 c2 => ⟨Ext.cell (c1.trans c2) (hnW j hjl),CallK.ext (isC (hT.ext (hE.trans (c1.trans c2))) _) fun v W3 c3 ⟨b,hv⟩ => ⟨b,hv,(c1.trans c2).trans c3⟩⟩⟩) ?_
    refine irB <| irS <| irS <| irD fun W1 => gT0 ?_
    refine gW 0 6 [] ?_
    refine gM ?_
    refine Proofs.YtenokfdkckhhiaaGreatDoor.g1 r_nilCheck ?_
    refine gF 2 Tryz.underlying56 ti_9 ?_
    refine gL Tryz.underlying9 ?_
    refine gB 1 Tryz.underlying9 ?_
    refine g2 r_seql ?_
    refine eT fun W2 => gZ <| irN <| tn ?_
    refine irF ?_ (by show some (Value.bool (decide (nm j = but))) = _; rw [decide_eq_false hjb])
    refine irK <| tn <| irS <| irR <| gT0 ?_
    refine gM ?_
    refine Proofs.YtenokfdkckhhiaaGreatDoor.g1 r_nilCheck ?_
    refine gF 2 Tryz.underlying56 ti_9 ?_
    refine gL Tryz.underlying9 ?_
    refine gC [] Tryz.func100 fun _ W3 => gE fun b => gQ ?_
    refine ge <| irN <| tn ?_
    have hBW : ∀ {W3 : World},Ext W W3 → Below w2.heap.size w2 W3 := fun e => ⟨e.os.trans hB.os,e.tape.trans hB.tape,e.output.trans hB.output,Nat.le_trans hB.size e.size,fun k hk => (e.block k (Nat.lt_of_lt_of_le hk hB.size) (by simp)).trans (hB.block k hk)⟩
    cases b with
    |true =>
     refine irT ?_ rfl
     refine irE <| br ?_
     intro a' s e3
     show KeepsFrom _ W W3 ∧ _
     refine ⟨keepsFrom_chg hbW (e3.mono (by simp)),⟨rfl,pre,x,rfl,hpre⟩,W3,fun ⟨ini,hi⟩ => ?_,Nat.le_trans hBB.size e3.size,Below.refl _ _⟩
     obtain ⟨_,hx⟩ := List.append_inj' hi rfl
     injection hx with hx _
     exact absurd hx hx0
    |false =>
     refine irF ?_ rfl
     refine irK <| bn ?_
     intro a' s e3
     show KeepsFrom _ W W3 ∧ _ ∧ _
     refine ⟨keepsFrom_chg hbW (e3.mono (by simp)),?_,fun z hz => (List.mem_append.1 hz).elim (hpre z) fun h => by rw [List.mem_singleton.1 h]; exact hx0,hBW e3⟩
     exact ⟨e3.os,e3.tape,e3.output,e3.size,fun k hk => e3.block k (by have := hB.size; omega) (by simp)⟩
  ·have hv' : (bif Nat.beq t 2 then some (Value.pointer (some ⟨w.heap.size,0,none⟩)) else bif Nat.beq t 3 then some (Value.pointer (some ⟨w.heap.size + 1,0,none⟩)) else bif Nat.beq t 5 then some (Value.pointer (some ⟨ps j,0,none⟩)) else none) = some v := hv
   cases e2 : Nat.beq t 2 with
   |true => rw [e2] at hv'; obtain rfl := Nat.eq_of_beq_eq_true e2; injection hv'
   |false =>
    rw [e2] at hv'
    cases e3 : Nat.beq t 3 with
    |true => rw [e3] at hv'; obtain rfl := Nat.eq_of_beq_eq_true e3; injection hv'
    |false =>
     rw [e3] at hv'
     cases e5 : Nat.beq t 5 with
     |true => rw [e5] at hv'; obtain rfl := Nat.eq_of_beq_eq_true e5; injection hv'
     |false => rw [e5] at hv'; cases hv'
  ·simp only [List.mem_cons,List.not_mem_nil,or_false] at hb
   rcases hb with rfl | rfl
   ·exact bR'
   ·exact bI'
 case done =>
  rintro D ys W hD rfl ⟨h,_⟩ hK
  exact absurd rfl (h 0 (by rw [List.mem_range,hzl]; omega))
 case stop =>
  as_aux_lemma =>
   rintro D c pre W hD ⟨k,hk,rfl⟩ ⟨⟨rfl,ini,last,e1,e2⟩,w1,e3,e4,hB⟩ hK
   have hini : ini = [] := by
    cases ini with
    |nil => rfl
    |cons z ini =>
     exfalso
     obtain ⟨k,rfl⟩ : ∃ k',k = k' + 1 := ⟨k - 1,by cases k with | zero => simp at e1 | succ k => simp⟩
     rw [List.range_succ_eq_map] at e1
     injection e1 with e1 _
     exact e2 z (by simp) e1.symm
   subst hini
   have hlast : last = 0 := by
    cases k with
    |zero => simp at e1
    |succ k =>
     rw [List.range_succ_eq_map] at e1
     injection e1 with e1 _
     exact e1.symm
   subst hlast
   obtain ⟨c1,b1⟩ := e3 ⟨[],e1⟩
   gi_wp2
   refine ⟨by simp,.inl ⟨_,_,rfl,run_takeDeferred hK,?_⟩⟩
   have hB' := hB.trans (belowK_b (w := w) (Nat.le_refl _) W D _ (.deferred none) (by omega) hK rfl rfl)
   exact ⟨_,results_none rfl _ _ _,rfl,⟨hB'.os.trans c1.os,hB'.tape.trans c1.tape,hB'.output.trans c1.output,Nat.le_trans c1.size hB'.size,fun k hk hn => (hB'.block k hk).trans (c1.block k hk hn)⟩,(hB'.block bb hbb).trans b1⟩
end Ev
end
section
namespace Ev
set_option autoImplicit false
open Go.RowKit
noncomputable section
def namN (vs : List AV) (H : AH) : Option (AV × AH) := match vs with
 |[.c (.tx n [])] => cond (Nat.ble 100 n) (some (.c (.b true),H)) none
 |_ => none
theorem cls_name (n : Nat) : ∀ q ∈ clsN n,nameOk (q.map UInt8.ofNat) = true := fun q hq => by
 have h : ∀ q ∈ clsN 3,nameOk (q.map UInt8.ofNat) = true := by decide +kernel
 exact h q (clsN_sub n q hq)
section
variable [Tx] {E : En} {H : AH} {w0 : W0} {w : World}
theorem namN_ok {vs : List AV} {H' : AH} {v : AV} (h : namN vs H = some (v,H')) {args : List Value} (hH : HR E H w0 w) (hA : All2 (AV.v E) vs args) :
  Keeps E H H' ∧ Calls Tryz.prog 31 args.toArray w (Ret fun u w' => Post E H H' w0 v u w') := by
 unfold namN at h
 split at h
 ·rename_i n
  obtain ⟨a1,h1⟩ := cnd_some h
  injection h1 with h1; injection h1 with g1 g2; subst g1; subst g2
  match args,hA with
  |[a0],.cons hb .nil =>
   obtain ⟨rfl,_,hc⟩ := hb
   obtain ⟨q,hq,e⟩ := hc (Nat.le_of_ble_eq_true a1)
   refine ⟨Keeps.refl _ _,?_⟩
   rw [List.map_nil,List.nil_append,e]
   refine Ret.mono (treeName (q.map UInt8.ofNat)) fun u w' ⟨hE,hu⟩ => ⟨E,En.le_refl _,fun _ _ h => .inl h,hH.ext hE,?_⟩
   rw [hu,cls_name n q hq]; rfl
 ·cases h
end
def isS (l : Option (List AC)) : Bool := match l with
 |some [.s _] => true
 |some [.tx _ _] => true
 |_ => false
def othN (vs : List AV) (H : AH) : Option (AV × AH) := match vs with
 |[.c (.p (some (b,o))),.c (.tx m [])] => cond (Nat.beq o 0) (match opnN H b with
  |some z => match lastP z.L,H.wr b 3 [.sl (some (z.y,z.oy)) (Nat.pred z.n) z.c 1] with
   |some (_,q),some H1 => cond (z.L.all fun p => isS (H.rd p.1 2 1)) (match H.rd q.1 2 1 with
    |some [.tx m2 []] => cond (Nat.beq (upN m2) (upN m)) (some (.t [],H1)) none
    |_ => none) none
   |_,_ => none
  |none => none) none
 |_ => none
section
variable [Tx] {E : En} {H : AH} {w0 : W0} {w : World}
theorem isS_ok (h : HR E H w0 w) {q P S : Nat} (hq : isS (H.rd q 2 1) = true) (he : E q = some (P,S)) : ∃ x : Str,w.cell? ((⟨P,0,none⟩ : Addr).add 2) = some (.string (Bs x)) := by
 unfold isS at hq
 split at hq
 ·rename_i x hr
  obtain ⟨u,h1,h2,_⟩ := rd1 h hr he
  exact ⟨_,by rw [Addr.add_lit,h1,h2]⟩
 ·rename_i n x hr
  obtain ⟨u,h1,h2,_⟩ := rd1 h hr he
  exact ⟨_,by rw [Addr.add_lit,h1,h2]⟩
 ·cases hq
theorem othN_ok {vs : List AV} {H' : AH} {v : AV} (h : othN vs H = some (v,H')) {args : List Value} (hH : HR E H w0 w) (hA : All2 (AV.v E) vs args) :
  Keeps E H H' ∧ Calls Tryz.prog 148 args.toArray w (Ret fun u w' => Post E H H' w0 v u w') := by
 unfold othN at h
 split at h
 ·rename_i b o m
  obtain ⟨a1,h1⟩ := cnd_some h
  clear h
  obtain rfl := beq_of a1
  split at h1
  ·rename_i z hz
   split at h1
   ·rename_i L0 q H1 hL hw
    obtain ⟨a2,h2⟩ := cnd_some h1
    clear h1
    split at h2
    ·rename_i m2 hr
     obtain ⟨a5,h5⟩ := cnd_some h2
     injection h5 with h5; injection h5 with g1 g2; subst g1; subst g2
     match args,hA with
     |[a0,a1],.cons hb (.cons ha .nil) =>
      obtain ⟨B,S,e1,rfl⟩ := hb
      obtain ⟨rfl,_⟩ := ha
      obtain ⟨Y,SY,cap,LB,SL,ps,k1,k2,k3,k4,k5,k6,k7,k8,k9,k10,ho,hd,hq⟩ := opn_ok hH hz e1
      obtain ⟨C,T',hBx,hlen,hk⟩ := hH.wr hw e1 (cs := [.slice (some ⟨Y,z.oy,none⟩) (z.n - 1) cap]) (.cons ⟨Y,SY,z.oy,cap,k1,rfl,k2,Nat.le_trans (Nat.pred_le _) k3,.inr rfl,by omega⟩ .nil)
      have eL := lastP_ok hL
      have hl0 : L0.length = z.n - 1 := by rw [eL] at k10; simp at k10; omega
      have hqg : z.L.getD (z.n - 1) (0,0) = q := by rw [eL,← hl0]; simp [List.getD_eq_getElem?_getD]
      have et2 : Tx.t m2 = Tx.t m := by rw [← Tx.up m2,← Tx.up m,beq_of a5]
      have hone : ∀ j,∃ x : Str,j < z.n → w.cell? ((⟨ps j,0,none⟩ : Addr).add 2) = some (.string (Bs x)) := fun j => by
       by_cases hj : j < z.n
       ·obtain ⟨Sj,hjE⟩ := hq j hj
        obtain ⟨x,hx⟩ := isS_ok hH (List.all_eq_true.1 a2 (z.L.getD j (0,0)) (by rw [List.getD_eq_getElem?_getD,List.getElem?_eq_getElem (by omega)]; exact List.getElem_mem _)) hjE
        exact ⟨x,fun _ => hx⟩
       ·exact ⟨[],fun h => absurd h hj⟩
      obtain ⟨nm,hnm⟩ := Classical.axiomOfChoice hone
      obtain ⟨Sq,hqE⟩ := hq (z.n - 1) (by omega)
      rw [hqg] at hqE
      obtain ⟨u,y1,rfl,_⟩ := rd1 hH hr hqE
      have hbut : nm (z.n - 1) = Tx.t m := by
       have h1 := hnm (z.n - 1) (by omega)
       rw [Addr.add_lit,y1] at h1
       injection h1 with h1; injection h1 with h1
       have h1 := Bs_inj h1
       rw [← h1,← et2]; rfl
      refine ⟨wr_keeps hw e1,?_⟩
      rw [List.map_nil,List.nil_append]
      refine (callsIn_wide.1 (otherEnd_in Fence.wide 5 (Lib.hid rfl) trivial trivial trivial rfl (Nat.le_refl _) B Y z.oy cap z.n LB ps _ nm (Tx.t m) T' C w hH.table ho (by omega) (fun j hj => hnm j hj) hbut hd hBx (by simp at hlen; omega) k3)).mono fun e w' hr => ?_
      obtain ⟨rfl,c1,hB1⟩ := hr
      exact ⟨E,En.le_refl _,fun _ _ h => .inl h,hk w' c1 hB1,[],rfl,.nil⟩
    ·cases h2
   ·cases h1
  ·cases h1
 ·cases h
def spX (f : Nat) (vs : List AV) (H : AH) : Option (AV × AH) := cond (Nat.beq f 31) (namN vs H) (cond (Nat.beq f 166) (pshN vs H)
 (cond (Nat.beq f 114) (rebN vs H) (cond (Nat.beq f 147) (adoN vs H) (cond (Nat.beq f 148) (othN vs H) (spM f vs H)))))
theorem spX_ok (G : Nat) : RunOk Tryz.prog G spX := by
 intro f vs H H' v h
 unfold spX at h
 cases h0 : Nat.beq f 31 with
 |true =>
  rw [h0] at h
  obtain rfl := beq_of h0
  exact ⟨⟨_,Tryz.func31,by decide +kernel,rfl⟩,fun _ hH hA => namN_ok h hH hA⟩
 |false =>
 rw [h0] at h
 cases h1 : Nat.beq f 166 with
 |true =>
  rw [h1] at h
  obtain rfl := beq_of h1
  exact ⟨⟨_,Tryz.func166,by decide +kernel,rfl⟩,fun _ hH hA => pshN_ok h hH hA⟩
 |false =>
  rw [h1] at h
  cases h2 : Nat.beq f 114 with
  |true =>
   rw [h2] at h
   obtain rfl := beq_of h2
   exact ⟨⟨_,Tryz.func114,by decide +kernel,rfl⟩,fun _ hH hA => rebN_ok h hH hA⟩
  |false =>
   rw [h2] at h
   cases h3 : Nat.beq f 147 with
   |true =>
    rw [h3] at h
    obtain rfl := beq_of h3
    exact ⟨⟨_,Tryz.func147,by decide +kernel,rfl⟩,fun _ hH hA => adoN_ok h hH hA⟩
   |false =>
    rw [h3] at h
    cases h4 : Nat.beq f 148 with
    |true =>
     rw [h4] at h
     obtain rfl := beq_of h4
     exact ⟨⟨_,Tryz.func148,by decide +kernel,rfl⟩,fun _ hH hA => othN_ok h hH hA⟩
    |false => rw [h4] at h; exact spM_ok G h
end
end
end Ev
end
section
namespace Ev
set_option autoImplicit false
open Go.RowKit
noncomputable section
def good (r : Option (AV × AH)) : Bool := match r with
 |some (.c (.b true),_) => true
 |_ => false
def spP (f : Nat) (vs : List AV) (H : AH) : Option (AV × AH) := cond (Nat.beq f 15) (match vs with
 |[.c (.qu n r),.c (.i .i64 (.ofNat m))] => cond (Nat.beq n m && Nat.blt 0 n && Nat.ble n 1000) (some (.c (.i .i64 (.ofNat r)),H)) none
 |_ => none) (spX f vs H)
section
variable [Tx]
theorem spP_ok : RunOk Tryz.prog 0 spP := by
 intro f vs H H' v h
 replace h : cond (Nat.beq f 15) (match (generalizing := false) vs with
  |[.c (.qu n r),.c (.i .i64 (.ofNat m))] => cond (Nat.beq n m && Nat.blt 0 n && Nat.ble n 1000) (some (AV.c (.i .i64 (.ofNat r)),H)) none
  |_ => none) (spX f vs H) = some (v,H') := h
 cases hb : Nat.beq f 15 with
 |false => rw [hb] at h; exact spX_ok 0 h
 |true =>
  rw [hb] at h
  have hf := Nat.eq_of_beq_eq_true hb
  subst hf
  replace h : (match (generalizing := false) vs with
   |[.c (.qu n r),.c (.i .i64 (.ofNat m))] => cond (Nat.beq n m && Nat.blt 0 n && Nat.ble n 1000) (some (AV.c (.i .i64 (.ofNat r)),H)) none
   |_ => none) = some (v,H') := h
  split at h
  ·rename_i n r m
   obtain ⟨hin,h⟩ := cond_some h
   injection h with h1 h2; subst h1; subst h2
   simp only [Bool.and_eq_true,Nat.ble_eq,Nat.blt_eq] at hin
   obtain ⟨⟨e1,e2⟩,e3⟩ := hin
   have e1 := Nat.eq_of_beq_eq_true e1
   subst e1
   refine ⟨⟨_,Tryz.func15,by decide +kernel,rfl⟩,fun {E w0 w args} hG hH hA => ⟨Keeps.refl _ _,?_⟩⟩
   match args,hA with
   |[u,t],.cons hu (.cons ht .nil) =>
    obtain ⟨x,rfl,hx⟩ := hu
    have ht : t = .int .i64 ((n : Nat) : Int) := ht
    subst ht
    refine (place x (n : Int) (by omega) (by omega)).mono fun e w' hr => ?_
    cases e with
    |returned v =>
     obtain ⟨hE,rfl⟩ := hr
     exact ⟨E,En.le_refl _,fun _ _ h => .inl h,hH.ext hE,by show Value.int .i64 (x % (n : Int)) = _; rw [hx]; rfl⟩
    |_ => exact hr.elim
  ·cases h
def deep : Nat := 200
def runT (t : FT) : Run := runF spP t.find deep
theorem runT_ok {t : FT} (ht : t.Ok (FnR Tryz.prog 0)) : RunOk Tryz.prog 0 (runT t) := run_sound (fun _ _ h => FT.find_ok ht h) spP_ok deep
theorem closed_true {t : FT} (ht : t.Ok (FnR Tryz.prog 0)) {f : FuncId} {vs : List AV} {args : List Value} {w : World} (hw : WP w) (hvs : All2 (AV.v fun _ => none) vs args) (h : good (runT t f vs H00) = true) : Calls Tryz.prog f args.toArray w (Ret fun v w' => Ext w w' ∧ v = .bool true) := by
 unfold good at h
 split at h
 ·rename_i H' hr
  obtain ⟨_,hb⟩ := runT_ok ht hr
  refine (hb (fun g hg => absurd hg (Nat.not_lt_zero g)) (HR.start hw) hvs).2.mono fun e w' hx => ?_
  cases e with
  |returned v =>
   obtain ⟨E',_,_,h3,h4⟩ := hx
   exact ⟨h3.ch.ext,h4⟩
  |_ => exact hx.elim
 ·cases h
end
end
end Ev
end
section
namespace Ev
set_option autoImplicit false
noncomputable section
def F0 (w : World) (F : List Nat) : W0 := ⟨w,fun b => b ∈ F⟩
theorem Kept.chg {w w' : World} {F : List Nat} (h : Kept (F0 w F) w') : Chg F w w' := ⟨h.os,h.tape,h.output,h.size,h.block⟩
section
variable {E : En} {H H' S S' : AH} {w0 : W0} {w w' : World} {F : List Nat} {b : Nat}
section
variable [Tx]
theorem HR.rebase (h : HR E H w0 w) (hF : ∀ n p,E n = some p → p.1 ∈ F) (hF2 : ∀ k,k < w.heap.size → w0.may k → k ∈ F) (ht : 0 ∉ F) : HR E H (F0 w F) w :=
 ⟨h.lt,⟨h.table,ht⟩,Kept.refl _,h.dom,h.key,h.fkey,h.bf,h.las,fun b T c l B S ha he => by
  obtain ⟨C,T',fz,h1,h2,h3,h4⟩ := h.cel b T c l B S ha he
  exact ⟨C,T',fz,h1,h2,h3,fun hl => ⟨(h4 hl).1,.inr (hF _ _ he)⟩⟩,fun b es cl B S hg he => ⟨.inr (hF _ _ he),(h.mp b es cl B S hg he).2⟩,h.inj,fun b v B S hg he => by
  obtain ⟨K,h1,h2,h3,h4⟩ := h.ls b v B S hg he
  exact ⟨K,h1,h2,h3,fun k hk => ⟨(h4 k hk).1,.inr (hF2 k (h4 k hk).1 (h4 k hk).2)⟩⟩⟩
end
section
variable [Tx]
structure BSE (E : En) (S : AH) (F : List Nat) (b : Nat) (w : World) : Prop where
 fst : ∃ n,E 0 = some (b,n)
 mem : ∀ n p,E n = some p → p.1 ∈ F
 hr : HR E S (F0 w F) w
 lt : ∀ x ∈ F,x < w.heap.size
def BSt (S : AH) (F : List Nat) (b : Nat) (w : World) : Prop := ∃ E,BSE E S F b w
theorem BSE.tab (h : BSE E S F b w) : 0 ∉ F := h.hr.wp.2
theorem HR.chg {G : List Nat} (h : HR E H (F0 w F) w) (hF : ∀ n p,E n = some p → p.1 ∈ F) (c : Chg G w w') (hG : ∀ x ∈ F,x ∉ G) (ht : 0 ∉ G) : HR E H (F0 w' F) w' := by
 have keep : ∀ {B : Nat} {o : Obj},B ∉ G → w.heap[B]? = some o → w'.heap[B]? = some o := fun hB hb => by
  rw [c.block _ (Array.getElem?_eq_some_iff.1 hb).1 hB]; exact hb
 have hw : WP w' := by
  have hw := h.table
  have hlt := table_lt hw
  have hg : Tryz.prog.globalNamed "strings.asciiSpace" = some 0 := by kernel_rfl
  unfold WP Lib.TabIs World.var? at hw ⊢
  rw [hg] at hw ⊢
  simp only [Option.bind_some] at hw ⊢
  rw [c.block _ hlt ht]
  exact hw
 refine ⟨fun x p hp => Nat.lt_of_lt_of_le (h.lt x p hp) c.size,⟨hw,h.wp.2⟩,Kept.refl _,h.dom,h.key,h.fkey,h.bf,h.las,fun b T c' l B S ha he => ?_,fun b es cl B S hg he => ?_,h.inj,fun b v B S hg he => by
  obtain ⟨K,h1,h2,h3,h4⟩ := h.ls b v B S hg he
  have hk : ∀ k ∈ K,k ∈ F := fun k hk => by
   rcases (h4 k hk).2 with h5 | h5
   ·exact absurd (h4 k hk).1 (Nat.not_lt.2 h5)
   ·exact h5
  exact ⟨K,h1,LsN.chg h2 c fun x hx hxk => hG x (hk x hxk) hx,h3,fun k hk' => ⟨Nat.lt_of_lt_of_le (h4 k hk').1 c.size,.inr (hk k hk')⟩⟩⟩
 ·obtain ⟨C,T',fz,h1,h2,h3,h4⟩ := h.cel b T c' l B S ha he
  exact ⟨C,T',fz,keep (hG _ (hF _ _ he)) h1,h2,h3,fun hl => ⟨(h4 hl).1,.inr (hF _ _ he)⟩⟩
 ·obtain ⟨_,ms,h1,h2⟩ := h.mp b es cl B S hg he
  exact ⟨.inr (hF _ _ he),ms,keep (hG _ (hF _ _ he)) h1,h2⟩
theorem BSE.chg {G : List Nat} (h : BSE E S F b w) (c : Chg G w w') (hG : ∀ x ∈ F,x ∉ G) (ht : 0 ∉ G) : BSE E S F b w' :=
 ⟨h.fst,h.mem,h.hr.chg h.mem c hG ht,fun x hx => Nat.lt_of_lt_of_le (h.lt x hx) c.size⟩
theorem BSE.ext (h : BSE E S F b w) (c : Ext w w') : BSE E S F b w' := h.chg c (by simp) (by simp)
theorem BSt.ext (h : BSt S F b w) (c : Ext w w') : BSt S F b w' := ⟨_,h.choose_spec.ext c⟩
theorem BSE.cell (h : BSE E S F b w) {T : Nat} {c : List AC} {l : Lk} (ha : S.at 0 = some (T,c,l)) {j : Nat} {x : AC} (hx : c[j]? = some x) : ∃ v,w.cell? ⟨b,j,none⟩ = some v ∧ x.v E v := by
 obtain ⟨n,h1⟩ := h.fst
 obtain ⟨C,T',fz,g1,g2,g3,_⟩ := h.hr.cel 0 T c l b n ha h1
 obtain ⟨v,hv,k⟩ := g3 j x hx
 exact ⟨v,by simp [World.cell?,g1,hv],k⟩
def BPost (E : En) (F : List Nat) (b : Nat) (w : World) (ns : List Nat) (S' : AH) (v : AV) (u : Value) (w' : World) : Prop :=
 Chg F w w' ∧ ∃ F' E' E1,BSE E' S' F' b w' ∧ (∀ x ∈ F',x ∈ F ∨ w.heap.size ≤ x) ∧ E.le E1 ∧ v.v E1 u ∧ ∀ x x' y,renV ns x = some x' → x.v E1 y → x'.v E' y
theorem BSE.call {run : Run} (hrun : RunOk Tryz.prog 0 run) {f : FuncId} {vs : List AV} {args : List Value} {v : AV} {ns : List Nat} (h : BSE E S F b w) (ha : All2 (AV.v E) vs args)
  (he : run f vs S = some (v,H')) (hg : gcH (0 :: ns) H' = some S') : Calls Tryz.prog f args.toArray w (Ret fun u w' => BPost E F b w (0 :: ns) S' v u w') := by
 obtain ⟨n,h1⟩ := h.fst
 have hH := h.hr
 have htab := h.tab
 have hwlt := table_lt hH.table
 obtain ⟨_,hb⟩ := hrun he
 refine (hb (fun g hg => absurd hg (Nat.not_lt_zero g)) hH ha).2.mono fun e w' hx => ?_
 cases e with
 |returned u =>
  obtain ⟨E1,hle,_,hH1,hv⟩ := hx
  have hR := gcH_ok hg hH1
  obtain ⟨_,hnx,_,_⟩ := gcH_get hg
  have hblk : ∀ k p,enR (0 :: ns) E1 k = some p → (p.1 ∈ F ∨ w.heap.size ≤ p.1) ∧ p.1 < w'.heap.size := fun k p hp => by
   have hk := hR.dom k p hp
   rcases gcH_at hg (by rw [← hnx]; exact hk) with ⟨T,c,hat⟩ | ⟨lv,hat⟩
   ·obtain ⟨C,T',fz,g1,_,_,g4⟩ := hR.cel k T c .own p.1 p.2 hat hp
    refine ⟨?_,(Array.getElem?_eq_some_iff.1 g1).1⟩
    rcases (g4 (by simp)).2 with h | h
    ·exact .inr h
    ·exact .inl h
   ·obtain ⟨K,g1,_,_,g4⟩ := hR.ls k lv p.1 p.2 hat hp
    obtain ⟨g5,g6⟩ := g4 p.1 g1
    refine ⟨?_,g5⟩
    rcases g6 with h | h
    ·exact .inr h
    ·exact .inl h
  have hmem : ∀ x,x ∈ (List.range w'.heap.size).filter (fun x => decide (x ∈ F ∨ w.heap.size ≤ x)) ↔ x < w'.heap.size ∧ (x ∈ F ∨ w.heap.size ≤ x) := fun x => by simp
  refine ⟨hH1.ch.chg,(List.range w'.heap.size).filter (fun x => decide (x ∈ F ∨ w.heap.size ≤ x)),enR (0 :: ns) E1,E1,⟨⟨n,?_⟩,fun k p hp => (hmem _).2 ⟨(hblk k p hp).2,(hblk k p hp).1⟩,?_,fun x hx => ((hmem x).1 hx).1⟩,fun x hx => ((hmem x).1 hx).2,hle,hv,fun x x' y h1 h2 => renV_ok h1 h2⟩
  ·show E1 0 = _
   exact hle _ _ h1
  ·refine hR.rebase (fun k p hp => (hmem _).2 ⟨(hblk k p hp).2,(hblk k p hp).1⟩) (fun k hk hm => (hmem k).2 ⟨hk,hm.symm⟩) fun hm => ?_
   rcases ((hmem _).1 hm).2 with h | h
   ·exact htab h
   ·omega
 |_ => exact hx.elim
end
end
def ptrsA : AC → List Nat
 |.p (some (b,_)) => [b]
 |.sl (some (b,_)) _ _ _ => [b]
 |.f _ l => l.map (·.1)
 |_ => []
def ptrsL (l : List AC) : List Nat := List.rec [] (fun x _ ih => ptrsA x ++ ih) l
def memN (n : Nat) (l : List Nat) : Bool := List.rec false (fun x _ ih => cond (Nat.beq n x) true ih) l
def reachGo (H : AH) (fuel : Nat) : List Nat → List Nat → List Nat := Nat.rec (fun _ seen => seen) (fun _ ih todo seen => match todo with
 |[] => seen
 |n :: r => cond (memN n seen) (ih r seen) (match H.at n with
  |some (_,c,_) => ih (ptrsL c ++ r) (n :: seen)
  |none => match H.get n with
   |some (.lst _) => ih r (n :: seen)
   |_ => ih r seen)) fuel
def reach (H : AH) (v : AV) : List Nat := (reachGo H fuelL (0 :: ptrsL v.cells) []).reverse.tail
def mkH (l : List AO) : AH := List.foldl AH.push ⟨0,.nil,.nil⟩ l
def gcV (v : AV) (H : AH) : Option (AV × AH) := match gcH (0 :: reach H v) H,renV (0 :: reach H v) v with
 |some S,some v' => some (v',S)
 |_,_ => none
theorem gcV_ok {v v' : AV} {H S : AH} (h : gcV v H = some (v',S)) : gcH (0 :: reach H v) H = some S ∧ renV (0 :: reach H v) v = some v' := by
 unfold gcV at h
 split at h
 ·rename_i e1 e2
  injection h with h; injection h with h1 h2; subst h1; subst h2
  exact ⟨e1,e2⟩
 ·cases h
def stepM (run : Run) (f : FuncId) (vs : List AV) (S : AH) : Option AH := match run f (.c (.p (some (0,0))) :: vs) S with
 |some (.t [],H) => gcH (0 :: reach H .u) H
 |_ => none
section
variable [Tx]
theorem BSt.step {run : Run} (hrun : RunOk Tryz.prog 0 run) {f : FuncId} {vs : List AV} {args : List Value} {S S' : AH} {w : World} {F : List Nat} {b : Nat} (h : BSt S F b w) (ha : ∀ E,All2 (AV.v E) vs args) (he : stepM run f vs S = some S') :
  Calls Tryz.prog f (.pointer (some ⟨b,0,none⟩) :: args).toArray w (Ret fun u w' => Chg F w w' ∧ (∃ F',BSt S' F' b w' ∧ ∀ x ∈ F',x ∈ F ∨ w.heap.size ≤ x) ∧ u = .tuple #[]) := by
 obtain ⟨E,h⟩ := h
 obtain ⟨n,hE⟩ := h.fst
 unfold stepM at he
 split at he
 ·rename_i H hr
  refine (h.call hrun (.cons (show AV.v E (.c (.p (some (0,0)))) (.pointer (some ⟨b,0,none⟩)) from ⟨b,n,hE,rfl⟩) (ha E)) hr he).mono fun e w' hx => ?_
  cases e with
  |returned u =>
   obtain ⟨h1,F',E',E1,h2,h3,_,⟨vs',h4,h5⟩,_⟩ := hx
   refine ⟨h1,⟨F',⟨E',h2⟩,h3⟩,?_⟩
   cases h5
   exact h4
  |_ => exact hx.elim
 ·cases he
end
end
end Ev
end
section
inductive RdQ (w : World) : T → Sl → Sl → Prop
 |mk {k : Int} {n x : Str} {ks : List T} {sk : Sl} (ps : List (Sl × Sl)) (hn : sk.n = ks.length) (hl : ps.length = ks.length)
  (hk : ∀ i,i < ks.length → ∃ p,sk.a = some p ∧ Cells w (p.add (i * 5)) (tc (ks.getD i T.nul) (ps.getD i (Sl.nil,Sl.nil))))
  (h : ∀ (i : Nat) (t : T) (p : Sl × Sl),ks[i]? = some t → ps[i]? = some p → RdQ w t p.1 p.2) : RdQ w (.node k n x [] ks) Sl.nil sk
theorem RdQ.nkids {w : World} {t : T} {sa sk : Sl} (h : RdQ w t sa sk) : sk.n = t.kids.length := by
 cases h with | mk ps hn hl hk h => exact hn
theorem RdQ.kid {w : World} {t : T} {sa sk : Sl} (h : RdQ w t sa sk) {i : Nat} (hi : i < t.kids.length) :
  ∃ p sa' sk',sk.a = some p ∧ Cells w (p.add (i * 5)) (tc (t.kids.getD i T.nul) (sa',sk')) ∧ RdQ w (t.kids.getD i T.nul) sa' sk' := by
 cases h with
 |@mk k n x ks _ ps hn hl hk h =>
  simp only [T.kids] at hi ⊢
  have hp : i < ps.length := by omega
  obtain ⟨p,h1,h2⟩ := hk i hi
  refine ⟨p,(ps.getD i (Sl.nil,Sl.nil)).1,(ps.getD i (Sl.nil,Sl.nil)).2,h1,h2,h i _ _ ?_ ?_⟩
  ·rw [List.getElem?_eq_getElem hi,List.getD_eq_getElem?_getD,List.getElem?_eq_getElem hi]; rfl
  ·rw [List.getElem?_eq_getElem hp,List.getD_eq_getElem?_getD,List.getElem?_eq_getElem hp]; rfl
theorem RdQ.attrs {A : List Nat} {w : World} {t : T} {sa sk : Sl} (h : RdQ w t sa sk) : Row A w sa 2 (t.attrs.map ac) := by
 cases h with | mk ps hn hl hk h => exact Row.nil _ _ _
theorem RdQ.nattrs {w : World} {t : T} {sa sk : Sl} (h : RdQ w t sa sk) : sa.n = t.attrs.length := by
 cases h with | mk ps hn hl hk h => rfl
theorem Cells.chgE {w w' : World} {p : Addr} {cs : List Value} (h : Cells w p cs) (c : Ext w w') : Cells w' p cs := fun j v hv => c.cell (h j v hv)
theorem RdQ.ext {w w' : World} {t : T} {sa sk : Sl} (h : RdQ w t sa sk) (c : Ext w w') : RdQ w' t sa sk := by
 induction h with
 |mk ps hn hl hk h ih => exact .mk ps hn hl (fun i hi => by obtain ⟨p,h1,h2⟩ := hk i hi; exact ⟨p,h1,h2.chgE c⟩) ih
namespace Ev
set_option autoImplicit false
noncomputable section
theorem mkGo {l : List AO} : ∀ {acc : AH},(∀ k,acc.nx ≤ k → acc.get k = none) → (List.foldl AH.push acc l).nx = acc.nx + l.length ∧ (List.foldl AH.push acc l).fm = acc.fm ∧ ∀ k,(List.foldl AH.push acc l).get k = if k < acc.nx then acc.get k else l[k - acc.nx]? := by
 induction l with
 |nil =>
  intro acc h
  exact ⟨rfl,rfl,fun k => by
   by_cases hk : k < acc.nx
   ·rw [if_pos hk]; rfl
   ·rw [if_neg hk]; simpa using h k (by omega)⟩
 |cons o l ih =>
  intro acc h
  have hnx : (acc.push o).nx = acc.nx + 1 := rfl
  obtain ⟨h1,h2,h3⟩ := ih (acc := acc.push o) fun k hk => by rw [hnx] at hk; rw [AH.get_push,if_neg (by omega)]; exact h k (by omega)
  refine ⟨by rw [List.foldl_cons,h1,hnx,List.length_cons]; omega,h2,fun k => ?_⟩
  rw [List.foldl_cons,h3,hnx,AH.get_push]
  by_cases h4 : k < acc.nx
  ·rw [if_pos (by omega),if_neg (by omega),if_pos h4]
  ·rw [if_neg h4]
   by_cases h5 : k = acc.nx
   ·subst h5; rw [if_pos (by omega),if_pos rfl,Nat.sub_self]; rfl
   ·rw [if_neg (by omega),show k - acc.nx = (k - (acc.nx + 1)) + 1 by omega,List.getElem?_cons_succ]
theorem mkH_get (l : List AO) : (mkH l).nx = l.length ∧ (mkH l).fm = .nil ∧ ∀ k,(mkH l).get k = l[k]? := by
 obtain ⟨h1,h2,h3⟩ := mkGo (l := l) (acc := ⟨0,.nil,.nil⟩) fun k _ => rfl
 refine ⟨by unfold mkH; rw [h1]; simp,h2,fun k => ?_⟩
 unfold mkH
 rw [h3]; simp
structure Bk where
 B : Nat
 T : Nat
 c : List AC
 C : List Value
def bkE (q : List Bk) : En := fun k => (q[k]?).map fun x => (x.B,x.C.length)
def bkH (q : List Bk) : AH := mkH (q.map fun x => .cells x.T x.c .own)
section
variable [Tx]
theorem bkH_ok {q : List Bk} {F : List Nat} {w : World} (hw : WP w) (ht : 0 ∉ F) (hF : ∀ x ∈ q,x.B ∈ F) (hd : ∀ (i j : Nat) (x y : Bk),i ≠ j → q[i]? = some x → q[j]? = some y → x.B ≠ y.B)
  (h : ∀ x ∈ q,Box w x.B x.T x.C ∧ Pre (bkE q) x.c x.C) : HR (bkE q) (bkH q) (F0 w F) w := by
 obtain ⟨hnx,hfm,hget⟩ := mkH_get (q.map fun x => .cells x.T x.c .own)
 have fmn : ∀ f,(bkH q).fm.get f = none := fun f => by show (mkH _).fm.get f = none; rw [hfm]; rfl
 have get : ∀ {k : Nat} {o : AO},(bkH q).get k = some o → ∃ x,q[k]? = some x ∧ o = .cells x.T x.c .own := fun {k o} hk => by
  have hk : (mkH (q.map fun x => .cells x.T x.c .own)).get k = some o := hk
  rw [hget,List.getElem?_map] at hk
  obtain ⟨x,h1,h2⟩ := Option.map_eq_some_iff.1 hk
  exact ⟨x,h1,h2.symm⟩
 have lt : ∀ {k : Nat} {x : Bk},q[k]? = some x → k < (bkH q).nx := fun hk => by
  show _ < (mkH _).nx
  rw [hnx,List.length_map]; exact (List.getElem?_eq_some_iff.1 hk).1
 refine ⟨fun k p hk => by
  obtain ⟨x,hx,e⟩ := Option.map_eq_some_iff.1 hk
  subst e
  exact (h x (List.mem_of_getElem? hx)).1.lt,⟨hw,ht⟩,Kept.refl _,fun k p hk => ?_,fun k o hk => ?_,fun f p hf => ?_,fun k T c f e hk => ?_,fun k T c f e hk => ?_,fun k T c l B S hk he => ?_,fun k es cl B S hk he => ?_,fun k k' B S S' hkk he he' hl hl' => ?_,fun k v B S hk he => ?_⟩
 ·obtain ⟨x,hx,_⟩ := Option.map_eq_some_iff.1 hk
  exact lt hx
 ·obtain ⟨x,hx,_⟩ := get hk
  exact lt hx
 ·rw [fmn] at hf; cases hf
 ·obtain ⟨_,_,e⟩ := get hk; cases e
 ·obtain ⟨_,_,e⟩ := get (AH.at_eq.1 hk).1; cases e
 ·obtain ⟨x,hx,e⟩ := get (AH.at_eq.1 hk).1
  injection e with e1 e2 e3; subst e1; subst e2; subst e3
  obtain ⟨y,hy,e⟩ := Option.map_eq_some_iff.1 he
  rw [hx] at hy; injection hy with hy; subst hy
  injection e with e1 e2
  obtain ⟨g1,g2⟩ := h x (List.mem_of_getElem? hx)
  exact ⟨x.C,x.T,(0,0),e1 ▸ g1,e2,g2,fun _ => ⟨rfl,.inr (e1 ▸ hF x (List.mem_of_getElem? hx))⟩⟩
 ·obtain ⟨_,_,e⟩ := get hk; cases e
 ·obtain ⟨x,hx,e⟩ := Option.map_eq_some_iff.1 he
  obtain ⟨y,hy,e'⟩ := Option.map_eq_some_iff.1 he'
  injection e with e1 _; injection e' with e2 _
  exact absurd (e1.trans e2.symm) (hd k k' x y hkk hx hy)
 ·obtain ⟨_,_,e⟩ := get hk; cases e
def KidsQ (w : World) (ks : List T) (s : Sl) : Prop := ∃ ps : List (Sl × Sl),s.n = ks.length ∧ ps.length = ks.length ∧
 (∀ i,i < ks.length → ∃ p,s.a = some p ∧ Cells w (p.add (i * 5)) (tc (ks.getD i T.nul) (ps.getD i (Sl.nil,Sl.nil)))) ∧ ∀ (i : Nat) (t : T) (p : Sl × Sl),ks[i]? = some t → ps[i]? = some p → RdQ w t p.1 p.2
def txt (x : List Nat) : Str := x.map UInt8.ofNat
def tX : AC → Option Str
 |.s x => some (txt x)
 |.tx n x => some (txt x ++ Tx.t n)
 |_ => none
theorem tX_ok {E : En} {x : AC} {t : Str} {v : Value} (h : tX x = some t) (hv : x.v E v) : v = .string (Bs t) := by
 unfold tX at h
 split at h
 ·injection h with h; subst h; exact hv.1
 ·injection h with h; subst h; exact hv.1
 ·cases h
def kidsN (ih : AC → Option (List T)) (n : Nat) : List AC → Option (List T) := Nat.rec (fun cs => match cs with | [] => some [] | _ => none) (fun _ go cs => match cs with
 |.i .i64 k :: n :: x :: .sl none 0 _ _ :: sk :: r => match tX n,tX x,ih sk,go r with
  |some a,some t,some ks,some l => some (T.node k a t [] ks :: l)
  |_,_,_,_ => none
 |_ => none) n
def kidsT (H : AH) (fuel : Nat) : AC → Option (List T) := Nat.rec (fun _ => none) (fun _ ih sk => match sk with
 |.sl none _ _ _ => some []
 |.sl (some (b,o)) n _ es => cond (Nat.beq es 5) (match H.rd b o (Nat.mul n 5) with
  |some cs => kidsN ih n cs
  |none => none) none
 |_ => none) fuel
def treeT (H : AH) (v : AV) : Option T := match v with
 |.a [.i .i64 k,n,x,.sl none 0 _ _,sk] => match tX n,tX x,kidsT H 1000 sk with
  |some a,some t,some ks => some (T.node k a t [] ks)
  |_,_,_ => none
 |_ => none
end
section
variable {E : En} {H : AH} {w0 : W0} {w : World}
section
variable [Tx]
theorem kidsN_ok {ih : AC → Option (List T)} (hih : ∀ {sk : AC} {ks : List T} {u : Value},ih sk = some ks → sk.v E u → ∃ s : Sl,u = s.v ∧ KidsQ w ks s) : ∀ {n : Nat} {cs : List AC} {ks : List T} {us : List Value},kidsN ih n cs = some ks → ACs E cs us →
  ks.length = n ∧ ∃ ps : List (Sl × Sl),ps.length = ks.length ∧ (∀ i,i < ks.length → ∀ j v,(tc (ks.getD i T.nul) (ps.getD i (Sl.nil,Sl.nil)))[j]? = some v → us[i * 5 + j]? = some v) ∧ ∀ (i : Nat) (t : T) (p : Sl × Sl),ks[i]? = some t → ps[i]? = some p → RdQ w t p.1 p.2
 |0,cs,ks,us,h,hu => by
  replace h : (match (generalizing := false) cs with | [] => some [] | _ => none) = some ks := h
  split at h
  ·injection h with h; subst h
   exact ⟨rfl,[],rfl,fun i hi => by simp at hi,fun i t p ht => by simp at ht⟩
  ·cases h
 |n + 1,cs,ks,us,h,hu => by
  replace h : (match (generalizing := false) cs with
   |.i .i64 k :: nm :: x :: .sl none 0 _ _ :: sk :: r => (match tX nm,tX x,ih sk,kidsN ih n r with
    |some a,some t,some ks,some l => some (T.node k a t [] ks :: l)
    |_,_,_,_ => none)
   |_ => none) = some ks := h
  split at h
  ·rename_i k nm x _ _ sk r
   split at h
   ·rename_i n1 t1 ks' l en e0 e1 e2
    injection h with h; subst h
    cases hu with | cons u1 hu =>
    cases hu with | cons u2 hu =>
    cases hu with | cons u3 hu =>
    cases hu with | cons u4 hu =>
    cases hu with | cons u5 hu =>
    obtain ⟨g1,ps,g2,g3,g4⟩ := kidsN_ok hih e2 hu
    obtain ⟨s,rfl,ps',k1,k2,k3,k4⟩ := hih e1 u5
    cases u1
    obtain rfl := tX_ok en u2
    obtain rfl := tX_ok e0 u3
    obtain ⟨_,_,rfl⟩ := u4
    refine ⟨by simp [g1],(Sl.nil,s) :: ps,by simp [g2],fun i hi j v hv => ?_,fun i t p ht hp => ?_⟩
    ·cases i with
     |zero =>
      have hv : (tc (T.node k n1 t1 [] ks') (Sl.nil,s))[j]? = some v := by simpa using hv
      rw [Nat.zero_mul,Nat.zero_add]
      rcases j with _ | _ | _ | _ | _ | j
      all_goals first | exact hv | (simp [tc] at hv)
     |succ i =>
      have := g3 i (by simpa using hi) j v (by simpa using hv)
      rw [show (i + 1) * 5 + j = (i * 5 + j) + 5 by omega]
      simpa using this
    ·cases i with
     |zero =>
      simp at ht hp
      subst ht; subst hp
      exact .mk ps' k1 k2 k3 k4
     |succ i => exact g4 i t p (by simpa using ht) (by simpa using hp)
   ·cases h
  ·cases h
theorem kidsT_ok (hH : HR E H w0 w) : ∀ {fuel : Nat} {sk : AC} {ks : List T} {u : Value},kidsT H fuel sk = some ks → sk.v E u → ∃ s : Sl,u = s.v ∧ KidsQ w ks s
 |0,_,_,_,h,_ => by cases h
 |fuel + 1,sk,ks,u,h,hu => by
  replace h : (match (generalizing := false) sk with
   |.sl none _ _ _ => some []
   |.sl (some (b,o)) n _ es => cond (Nat.beq es 5) (match H.rd b o (Nat.mul n 5) with
    |some cs => kidsN (kidsT H fuel) n cs
    |none => none) none
   |_ => none) = some ks := h
  split at h
  ·injection h with h; subst h
   obtain ⟨_,_,rfl⟩ := hu
   exact ⟨Sl.nil,rfl,[],rfl,rfl,fun i hi => by simp at hi,fun i t p ht => by simp at ht⟩
  ·rename_i b o n c es
   cases hb : Nat.beq es 5 with
   |false => rw [hb] at h; cases h
   |true =>
    rw [hb] at h
    replace h : (match H.rd b o (Nat.mul n 5) with
     |some cs => kidsN (kidsT H fuel) n cs
     |none => none) = some ks := h
    split at h
    ·rename_i cs hr
     obtain ⟨B,S,o',c',he,rfl,hc1,hc2,hc3,_⟩ := hu
     obtain ⟨us,g1,g2,g3⟩ := hH.rd hr he
     obtain ⟨k1,ps,k2,k3,k4⟩ := kidsN_ok (fun h k => kidsT_ok hH h k) h g2
     refine ⟨⟨some ⟨B,o',none⟩,n,c'⟩,rfl,ps,k1.symm,k2,fun i hi => ⟨⟨B,o',none⟩,rfl,fun j v hv => ?_⟩,k4⟩
     have ho : o' = o := by
      rcases hc3 with h | h
      ·omega
      ·exact h
     subst ho
     have := g3 (i * 5 + j) v (k3 i hi j v hv)
     rw [Addr.add_add]; exact this
    ·cases h
  ·cases h
theorem treeT_ok (hH : HR E H w0 w) {v : AV} {t : T} {u : Value} (h : treeT H v = some t) (hu : v.v E u) : ∃ sk : Sl,u = tv t Sl.nil sk ∧ RdQ w t Sl.nil sk := by
 unfold treeT at h
 split at h
 ·rename_i k n x _ _ sk
  split at h
  ·rename_i n1 t1 ks en e0 e
   injection h with h; subst h
   obtain ⟨cs,rfl,hc⟩ := hu
   cases hc with | cons u1 hc =>
   cases hc with | cons u2 hc =>
   cases hc with | cons u3 hc =>
   cases hc with | cons u4 hc =>
   cases hc with | cons u5 hc =>
   cases hc
   obtain ⟨s,rfl,ps,k1,k2,k3,k4⟩ := kidsT_ok hH e u5
   cases u1
   obtain rfl := tX_ok en u2
   obtain rfl := tX_ok e0 u3
   obtain ⟨_,_,rfl⟩ := u4
   exact ⟨s,rfl,.mk ps k1 k2 k3 k4⟩
  ·cases h
 ·cases h
end
end
end
end Ev
end
section
open Go.RowKit
theorem treeSizeQ : ∀ t : T,t.bulk ≤ 1099511627776 → ∀ {w : World} {sa sk : Sl},RdQ w t sa sk →
  Calls Tryz.prog 38 #[tv t sa sk] w (Ret fun v w' => Ext w w' ∧ v = .int .i64 (t.size : Int)) := T.ind' fun t ih hb w sa sk h => by
 refine tree_Size.ok _ _ _ _ _ ?_
 unfold tree_Size.vc
 have hn := h.nkids
 have hl := T.kids_len t
 intro w1 B1 _ hE1
 refine ⟨fun n i w2 => ∃ k : Nat,i = (k : Int) ∧ k ≤ t.kids.length ∧ n = ((1 + ((t.kids.take k).map T.size).sum : Nat) : Int) ∧ Ext w w2,fun _ i _ => t.kids.length - i.toNat,⟨0,rfl,Nat.zero_le _,by simp,hE1⟩,?_⟩
 rintro _ _ w2 ⟨k,rfl,hk,rfl,hE⟩
 refine ⟨fun hi => ?_,fun hi => ⟨hE,?_⟩⟩
 ·have hk' : k < t.kids.length := by omega
  obtain ⟨p,sa',sk',hp,hc,hr⟩ := (h.ext hE).kid hk'
  rw [Int.toNat_natCast]
  have hm := getD_mem (d := T.nul) hk'
  have hs := sum_take T.size hk'
  have hsl := sum_take_le T.size t.kids (k + 1)
  have ht := T.size_eq t
  have htb := T.size_bulk t
  refine ⟨⟨by omega,hi⟩,p,hp,_,_,_,sa',sk',hc,fun w3 B3 _ hE3 => CallK.exact (ih _ hm (by have := T.kid_bulk hm; omega) (hr.ext hE3)) fun w4 hE4 => ⟨_,rfl,⟨by omega,by omega⟩,⟨by omega,by omega⟩,⟨k + 1,by omega,by omega,by omega,(hE.trans hE3).trans hE4⟩,by dsimp only; omega⟩⟩
 ·have hkl : k = t.kids.length := by omega
  subst hkl
  rw [List.take_of_length_le (Nat.le_refl _),T.size_eq t]
theorem treeDepthQ : ∀ t : T,t.bulk ≤ 1099511627776 → ∀ {w : World} {sa sk : Sl},RdQ w t sa sk →
  Calls Tryz.prog 39 #[tv t sa sk] w (Ret fun v w' => Ext w w' ∧ v = .int .i64 (t.depth : Int)) := T.ind' fun t ih hb w sa sk h => by
 refine tree_Depth.ok _ _ _ _ _ ?_
 unfold tree_Depth.vc
 have hn := h.nkids
 have hl := T.kids_len t
 intro w1 B1 _ hE1
 refine ⟨fun n i w2 => ∃ k : Nat,i = (k : Int) ∧ k ≤ t.kids.length ∧ n = ((((t.kids.take k).map T.depth).foldr max 0 : Nat) : Int) ∧ Ext w w2,fun _ i _ => t.kids.length - i.toNat,⟨0,rfl,Nat.zero_le _,by simp,hE1⟩,?_⟩
 rintro _ _ w2 ⟨k,rfl,hk,rfl,hE⟩
 refine ⟨fun hi => ?_,fun hi => ?_⟩
 ·have hk' : k < t.kids.length := by omega
  obtain ⟨p,sa',sk',hp,hc,hr⟩ := (h.ext hE).kid hk'
  rw [Int.toNat_natCast]
  have hm := getD_mem (d := T.nul) hk'
  have hs := max_take T.depth hk'
  refine ⟨⟨by omega,hi⟩,p,hp,_,_,_,sa',sk',hc,fun w3 B3 _ hE3 => CallK.exact (ih _ hm (by have := T.kid_bulk hm; omega) (hr.ext hE3)) fun w4 hE4 => ⟨_,rfl,⟨by omega,by omega⟩,⟨k + 1,by omega,by omega,by omega,(hE.trans hE3).trans hE4⟩,by dsimp only; omega⟩⟩
 ·have hkl : k = t.kids.length := by omega
  subst hkl
  have h1 := T.depth_eq t
  have h2 := T.depth_size t
  have h3 := T.size_bulk t
  rw [List.take_of_length_le (Nat.le_refl _)]
  refine ⟨⟨by omega,by omega⟩,hE,?_⟩
  rw [h1]; congr 1; omega
theorem treeKidsQ (t : T) (hb : t.bulk ≤ 1099511627776)
  (ih : ∀ u ∈ t.kids,∀ {w : World} {sa sk : Sl},RdQ w u sa sk → Calls Tryz.prog 76 #[tv u sa sk] w (Ret fun v w' => Ext w w' ∧ v = .bool (nodeOk u))) {w : World} {sa sk : Sl} (h : RdQ w t sa sk) :
  Calls Tryz.prog 41 #[tv t sa sk] w (Ret fun v w' => Ext w w' ∧ v = .bool (kidsOk t)) := by
 refine tree_kids.ok _ _ _ _ _ ?_
 unfold tree_kids.vc
 have hn := h.nkids
 have hl := T.kids_len t
 intro w1 B1 _ hE1
 refine ⟨fun i w2 => ∃ k : Nat,i = (k : Int) ∧ k ≤ t.kids.length ∧ kidsOk t = (t.kids.drop k).all (fun u => nodeOk u && !(decide (u.kind = 5) && !(decide (t.kind = 1)))) ∧ Ext w w2,fun i _ => t.kids.length - i.toNat,⟨0,rfl,Nat.zero_le _,rfl,hE1⟩,?_⟩
 rintro _ w2 ⟨k,rfl,hk,heq,hE⟩
 refine ⟨fun hi => ?_,fun hi => ⟨hE,?_⟩⟩
 ·have hk' : k < t.kids.length := by omega
  obtain ⟨p,sa',sk',hp,hc,hr⟩ := (h.ext hE).kid hk'
  rw [Int.toNat_natCast]
  have hm := getD_mem (d := T.nul) hk'
  rw [List.drop_eq_getElem_cons hk',List.all_cons,show t.kids[k] = t.kids.getD k T.nul by rw [List.getD_eq_getElem?_getD,List.getElem?_eq_getElem hk']; rfl] at heq
  refine ⟨⟨by omega,hi⟩,p,hp,_,_,_,sa',sk',hc,fun w3 B3 _ hE3 => CallK.exact (ih _ hm (hr.ext hE3)) fun w4 hE4 => ⟨_,rfl,fun hbad => ⟨(hE.trans hE3).trans hE4,?_⟩,fun hgood => ⟨⟨by omega,by omega⟩,⟨k + 1,by omega,by omega,?_,(hE.trans hE3).trans hE4⟩,by dsimp only; omega⟩⟩⟩
  ·rw [heq]
   rcases hbad with hb | ⟨hb1,hb2⟩
   ·rw [hb]; rfl
   ·rw [decide_eq_true hb1,decide_eq_false hb2]; simp
  ·rw [heq,hgood.1]
   rcases hgood.2 with hb | hb
   ·rw [decide_eq_false hb]; simp
   ·rw [decide_eq_true (Classical.not_not.1 hb)]; simp
 ·have hkl : k = t.kids.length := by omega
  subst hkl
  rw [heq,List.drop_length]; rfl
theorem treeNodeQ : ∀ t : T,t.bulk ≤ 1099511627776 → ∀ {w : World} {sa sk : Sl},RdQ w t sa sk →
  Calls Tryz.prog 76 #[tv t sa sk] w (Ret fun v w' => Ext w w' ∧ v = .bool (nodeOk t)) := T.ind' fun t ih hb w sa sk h => by
 refine tree_node.ok _ _ _ _ _ ?_
 unfold tree_node.vc
 have hn := h.nkids
 have hna := h.nattrs
 refine ⟨fun h2 => ?_,fun h2 => ?_⟩
 ·rw [nodeOk_el h2]
  intro w1 B1 _ hE1
  refine CallK.exact (treeName t.name) fun w2 hE2 => ⟨_,rfl,_,fun _ => treeAttrs (A := []) (h.ext (hE1.trans hE2)).attrs,fun w3 hE3 => ⟨kidsOk t,fun _ => treeKidsQ t hb (fun u hu _ _ _ hr => ih u hu (by have := T.kid_bulk hu; omega) hr) (h.ext ((hE1.trans hE2).trans hE3)),fun w4 hE4 => ⟨((hE1.trans hE2).trans hE3).trans hE4,?_⟩⟩⟩
  rw [isEmpty_dec]
 ·rw [nodeOk_ne h2]
  refine ⟨fun hbad w1 B1 _ hE1 => ⟨hE1,?_⟩,fun hgood => ?_⟩
  ·have : (t.attrs.isEmpty && t.kids.isEmpty) = false := by
    rcases hbad with hb | hb
    ·have : t.attrs.isEmpty = false := by cases hx : t.attrs <;> simp_all
     rw [this]; rfl
    ·have : t.kids.isEmpty = false := by cases hx : t.kids <;> simp_all
     rw [this,Bool.and_false]
   rw [this,Bool.false_and]
  ·have ha : t.attrs.isEmpty = true := by cases hx : t.attrs <;> simp_all
   have hk : t.kids.isEmpty = true := by cases hx : t.kids <;> simp_all
   rw [ha,hk,Bool.true_and,Bool.true_and]
   have l4 := le_dec t.text 4096
   have l3 := le_dec t.name 32
   rw [show ((4096 : Nat) : Int) = 4096 from rfl] at l4
   rw [show ((32 : Nat) : Int) = 32 from rfl] at l3
   refine ⟨fun h3 w1 B1 _ hE1 => ⟨hE1,?_⟩,fun h3 => ⟨fun h4 w1 B1 _ hE1 => ⟨hE1,?_⟩,fun h4 => ⟨fun h5 w1 B1 _ hE1 => ⟨hE1,?_⟩,fun h5 w1 B1 _ hE1 => ⟨hE1,?_⟩⟩⟩⟩
   ·rw [if_pos h3,isEmpty_dec,isEmpty_ndec,l4]
   ·rw [if_neg h3,if_pos h4,isEmpty_dec,l4]
   ·rw [if_neg h3,if_neg h4,if_pos h5,isEmpty_dec,l3]
   ·rw [if_neg h3,if_neg h4,if_neg h5]
theorem treeCheckQ (t : T) (hb : t.bulk ≤ 1099511627776) {w : World} {sa sk : Sl} (h : RdQ w t sa sk) :
  Calls Tryz.prog 23 #[tv t sa sk] w (Ret fun v w' => Ext w w' ∧ v = .bool t.check) := by
 refine tree_Check.ok _ _ _ _ _ ?_
 unfold tree_Check.vc
 have hna := h.nattrs
 intro w1 B1 _ hE1
 refine ⟨_,fun _ => treeSizeQ t hb (h.ext hE1),fun w2 hE2 => ⟨_,fun _ => treeDepthQ t hb (h.ext (hE1.trans hE2)),fun w3 hE3 w4 hE4 B4 _ hB4 => ?_⟩⟩
 have hE14 := ((hE1.trans hE2).trans hE3).trans hE4
 refine ⟨(t.name.isEmpty && t.text.isEmpty),fun hg => ?_,fun w5 hE5 => ⟨kidsOk t,fun _ => treeKidsQ t hb (fun u hu _ _ _ hr => treeNodeQ u (by have := T.kid_bulk hu; omega) hr) (h.ext (hE14.trans hE5)),fun w6 hE6 => ⟨(hE14.trans hE5).trans hE6,?_⟩⟩⟩
 ·have := treeEmpty (Box.strs (l := [t.name,t.text]) (hB4 hg) (by simp))
  simpa using this
 ·unfold T.check
  have e1 : decide ((t.size : Int) ≤ 300) = decide (t.size ≤ 300) := by rw [Bool.eq_iff_iff]; simp; omega
  have e2 : decide ((t.depth : Int) ≤ 60) = decide (t.depth ≤ 60) := by rw [Bool.eq_iff_iff]; simp; omega
  have e3 : decide ((sa.n : Int) = 0) = t.attrs.isEmpty := by
   rw [hna]; cases t.attrs with
   |nil => rfl
   |cons a r => simp; omega
  rw [e1,e2,e3]
end
section
namespace Ev
noncomputable section
def qI (n : Nat) : X := .c (.c (.i .i64 (.ofNat n)))
def qS (x : List Nat) : X := .c (.c (.s x))
def qT : X := .c (.c (.b true))
def qB : X := .c (.c (.b false))
def qR (l : List R) (c : C) : C := .seq (.reg l) c
def qO (d : Slt) (i : I) : R := ⟨some d,none,i,[]⟩
def qL (d : Slt) (x : X) : R := ⟨some d,none,.ld 1 false x,[]⟩
def qN (d : Slt) (x : X) : R := ⟨some d,none,.nc x,[]⟩
def qM (d : Slt) (x : X) : R := ⟨some d,none,.mv x,[]⟩
def qF (d : Slt) (n : Nat) (x : X) : R := ⟨some d,none,.fa n x,[]⟩
def qC (d : Slt) (f : Nat) (l : List X) : R := ⟨some d,none,.call f l,[]⟩
def qE (i : I) : R := ⟨none,none,i,[]⟩
def qG (d g : Slt) (i : I) : R := ⟨some d,some (g,true),i,[]⟩
def qH (d g : Slt) (i : I) : R := ⟨some d,some (g,false),i,[]⟩
def z0 : Slt := ⟨.a,.a⟩
def y0 : X := .t z0
def z1 : Slt := ⟨.a,.b⟩
def y1 : X := .t z1
def z2 : Slt := ⟨.a,.c⟩
def y2 : X := .t z2
def z3 : Slt := ⟨.a,.d⟩
def y3 : X := .t z3
def z4 : Slt := ⟨.a,.e⟩
def y4 : X := .t z4
def z5 : Slt := ⟨.a,.f⟩
def y5 : X := .t z5
def z6 : Slt := ⟨.a,.g⟩
def y6 : X := .t z6
def z7 : Slt := ⟨.a,.h⟩
def y7 : X := .t z7
def z8 : Slt := ⟨.a,.i⟩
def y8 : X := .t z8
def z9 : Slt := ⟨.a,.j⟩
def y9 : X := .t z9
def z10 : Slt := ⟨.a,.k⟩
def y10 : X := .t z10
def z11 : Slt := ⟨.a,.l⟩
def y11 : X := .t z11
def z12 : Slt := ⟨.a,.m⟩
def y12 : X := .t z12
def z13 : Slt := ⟨.a,.n⟩
def y13 : X := .t z13
def z14 : Slt := ⟨.a,.o⟩
def y14 : X := .t z14
def z15 : Slt := ⟨.a,.p⟩
def y15 : X := .t z15
def z16 : Slt := ⟨.b,.a⟩
def y16 : X := .t z16
def z17 : Slt := ⟨.b,.b⟩
def y17 : X := .t z17
def z18 : Slt := ⟨.b,.c⟩
def y18 : X := .t z18
def z19 : Slt := ⟨.b,.d⟩
def y19 : X := .t z19
def z20 : Slt := ⟨.b,.e⟩
def y20 : X := .t z20
def z21 : Slt := ⟨.b,.f⟩
def y21 : X := .t z21
def z22 : Slt := ⟨.b,.g⟩
def y22 : X := .t z22
def z23 : Slt := ⟨.b,.h⟩
def y23 : X := .t z23
def z24 : Slt := ⟨.b,.i⟩
def y24 : X := .t z24
def z25 : Slt := ⟨.b,.j⟩
def y25 : X := .t z25
def z26 : Slt := ⟨.b,.k⟩
def y26 : X := .t z26
def z27 : Slt := ⟨.b,.l⟩
def y27 : X := .t z27
def z28 : Slt := ⟨.b,.m⟩
def y28 : X := .t z28
def z29 : Slt := ⟨.b,.n⟩
def y29 : X := .t z29
def z30 : Slt := ⟨.b,.o⟩
def y30 : X := .t z30
def z31 : Slt := ⟨.b,.p⟩
def y31 : X := .t z31
def z32 : Slt := ⟨.c,.a⟩
def y32 : X := .t z32
def z33 : Slt := ⟨.c,.b⟩
def y33 : X := .t z33
def z34 : Slt := ⟨.c,.c⟩
def y34 : X := .t z34
def z35 : Slt := ⟨.c,.d⟩
def y35 : X := .t z35
def z36 : Slt := ⟨.c,.e⟩
def y36 : X := .t z36
def z37 : Slt := ⟨.c,.f⟩
def y37 : X := .t z37
def z38 : Slt := ⟨.c,.g⟩
def y38 : X := .t z38
def z39 : Slt := ⟨.c,.h⟩
def y39 : X := .t z39
def z40 : Slt := ⟨.c,.i⟩
def y40 : X := .t z40
def z41 : Slt := ⟨.c,.j⟩
def y41 : X := .t z41
def z42 : Slt := ⟨.c,.k⟩
def y42 : X := .t z42
def z43 : Slt := ⟨.c,.l⟩
def y43 : X := .t z43
def z44 : Slt := ⟨.c,.m⟩
def y44 : X := .t z44
def z45 : Slt := ⟨.c,.n⟩
def y45 : X := .t z45
def z46 : Slt := ⟨.c,.o⟩
def y46 : X := .t z46
def z47 : Slt := ⟨.c,.p⟩
def y47 : X := .t z47
def z48 : Slt := ⟨.d,.a⟩
def y48 : X := .t z48
def z49 : Slt := ⟨.d,.b⟩
def y49 : X := .t z49
def z50 : Slt := ⟨.d,.c⟩
def y50 : X := .t z50
def z51 : Slt := ⟨.d,.d⟩
def y51 : X := .t z51
def z52 : Slt := ⟨.d,.e⟩
def y52 : X := .t z52
def z53 : Slt := ⟨.d,.f⟩
def y53 : X := .t z53
def z54 : Slt := ⟨.d,.g⟩
def y54 : X := .t z54
def z55 : Slt := ⟨.d,.h⟩
def y55 : X := .t z55
def z56 : Slt := ⟨.d,.i⟩
def y56 : X := .t z56
def z57 : Slt := ⟨.d,.j⟩
def y57 : X := .t z57
def z58 : Slt := ⟨.d,.k⟩
def y58 : X := .t z58
def z59 : Slt := ⟨.d,.l⟩
def y59 : X := .t z59
def z60 : Slt := ⟨.d,.m⟩
def y60 : X := .t z60
def z61 : Slt := ⟨.d,.n⟩
def y61 : X := .t z61
def z62 : Slt := ⟨.d,.o⟩
def y62 : X := .t z62
def z63 : Slt := ⟨.d,.p⟩
def y63 : X := .t z63
def z64 : Slt := ⟨.e,.a⟩
def y64 : X := .t z64
def z65 : Slt := ⟨.e,.b⟩
def y65 : X := .t z65
def z66 : Slt := ⟨.e,.c⟩
def y66 : X := .t z66
def z67 : Slt := ⟨.e,.d⟩
def y67 : X := .t z67
def z68 : Slt := ⟨.e,.e⟩
def y68 : X := .t z68
def z69 : Slt := ⟨.e,.f⟩
def y69 : X := .t z69
def z70 : Slt := ⟨.e,.g⟩
def y70 : X := .t z70
def z71 : Slt := ⟨.e,.h⟩
def y71 : X := .t z71
def z72 : Slt := ⟨.e,.i⟩
def y72 : X := .t z72
def z73 : Slt := ⟨.e,.j⟩
def y73 : X := .t z73
def z74 : Slt := ⟨.e,.k⟩
def y74 : X := .t z74
def z75 : Slt := ⟨.e,.l⟩
def y75 : X := .t z75
def z76 : Slt := ⟨.e,.m⟩
def y76 : X := .t z76
def z77 : Slt := ⟨.e,.n⟩
def y77 : X := .t z77
def z78 : Slt := ⟨.e,.o⟩
def y78 : X := .t z78
def z79 : Slt := ⟨.e,.p⟩
def y79 : X := .t z79
def z80 : Slt := ⟨.f,.a⟩
def y80 : X := .t z80
def z81 : Slt := ⟨.f,.b⟩
def y81 : X := .t z81
def z82 : Slt := ⟨.f,.c⟩
def y82 : X := .t z82
def z83 : Slt := ⟨.f,.d⟩
def y83 : X := .t z83
def z84 : Slt := ⟨.f,.e⟩
def y84 : X := .t z84
def z85 : Slt := ⟨.f,.f⟩
def y85 : X := .t z85
def z86 : Slt := ⟨.f,.g⟩
def y86 : X := .t z86
def z87 : Slt := ⟨.f,.h⟩
def y87 : X := .t z87
def z88 : Slt := ⟨.f,.i⟩
def y88 : X := .t z88
def z89 : Slt := ⟨.f,.j⟩
def y89 : X := .t z89
def z90 : Slt := ⟨.f,.k⟩
def y90 : X := .t z90
def z91 : Slt := ⟨.f,.l⟩
def y91 : X := .t z91
def z92 : Slt := ⟨.f,.m⟩
def y92 : X := .t z92
def z93 : Slt := ⟨.f,.n⟩
def y93 : X := .t z93
def z94 : Slt := ⟨.f,.o⟩
def y94 : X := .t z94
def z95 : Slt := ⟨.f,.p⟩
def y95 : X := .t z95
def z96 : Slt := ⟨.g,.a⟩
def y96 : X := .t z96
def z97 : Slt := ⟨.g,.b⟩
def y97 : X := .t z97
def z98 : Slt := ⟨.g,.c⟩
def y98 : X := .t z98
def z99 : Slt := ⟨.g,.d⟩
def y99 : X := .t z99
def z100 : Slt := ⟨.g,.e⟩
def y100 : X := .t z100
def z101 : Slt := ⟨.g,.f⟩
def y101 : X := .t z101
def z102 : Slt := ⟨.g,.g⟩
def y102 : X := .t z102
def z103 : Slt := ⟨.g,.h⟩
def y103 : X := .t z103
def z104 : Slt := ⟨.g,.i⟩
def y104 : X := .t z104
def z105 : Slt := ⟨.g,.j⟩
def y105 : X := .t z105
def z106 : Slt := ⟨.g,.k⟩
def y106 : X := .t z106
def z107 : Slt := ⟨.g,.l⟩
def y107 : X := .t z107
def z108 : Slt := ⟨.g,.m⟩
def y108 : X := .t z108
def z109 : Slt := ⟨.g,.n⟩
def y109 : X := .t z109
def z110 : Slt := ⟨.g,.o⟩
def y110 : X := .t z110
def z111 : Slt := ⟨.g,.p⟩
def y111 : X := .t z111
def z112 : Slt := ⟨.h,.a⟩
def y112 : X := .t z112
def z113 : Slt := ⟨.h,.b⟩
def y113 : X := .t z113
def z114 : Slt := ⟨.h,.c⟩
def y114 : X := .t z114
def z115 : Slt := ⟨.h,.d⟩
def y115 : X := .t z115
def z116 : Slt := ⟨.h,.e⟩
def y116 : X := .t z116
def z117 : Slt := ⟨.h,.f⟩
def y117 : X := .t z117
def z118 : Slt := ⟨.h,.g⟩
def y118 : X := .t z118
def z119 : Slt := ⟨.h,.h⟩
def z120 : Slt := ⟨.h,.i⟩
def y120 : X := .t z120
def z121 : Slt := ⟨.h,.j⟩
def y121 : X := .t z121
def z122 : Slt := ⟨.h,.k⟩
def y122 : X := .t z122
def z123 : Slt := ⟨.h,.l⟩
def z124 : Slt := ⟨.h,.m⟩
def y124 : X := .t z124
def z125 : Slt := ⟨.h,.n⟩
def y125 : X := .t z125
def z126 : Slt := ⟨.h,.o⟩
def y126 : X := .t z126
def z127 : Slt := ⟨.h,.p⟩
def y127 : X := .t z127
def z128 : Slt := ⟨.i,.a⟩
def y128 : X := .t z128
def z129 : Slt := ⟨.i,.b⟩
def y129 : X := .t z129
def z131 : Slt := ⟨.i,.d⟩
def y131 : X := .t z131
def z132 : Slt := ⟨.i,.e⟩
def y132 : X := .t z132
def z133 : Slt := ⟨.i,.f⟩
def y133 : X := .t z133
def z134 : Slt := ⟨.i,.g⟩
def y134 : X := .t z134
def z135 : Slt := ⟨.i,.h⟩
def y135 : X := .t z135
def z136 : Slt := ⟨.i,.i⟩
def y136 : X := .t z136
def z137 : Slt := ⟨.i,.j⟩
def y137 : X := .t z137
def z138 : Slt := ⟨.i,.k⟩
def y138 : X := .t z138
def z139 : Slt := ⟨.i,.l⟩
def y139 : X := .t z139
def z140 : Slt := ⟨.i,.m⟩
def y140 : X := .t z140
def z141 : Slt := ⟨.i,.n⟩
def y141 : X := .t z141
def z142 : Slt := ⟨.i,.o⟩
def y142 : X := .t z142
def z143 : Slt := ⟨.i,.p⟩
def y143 : X := .t z143
def z144 : Slt := ⟨.j,.a⟩
def y144 : X := .t z144
def z145 : Slt := ⟨.j,.b⟩
def y145 : X := .t z145
def z146 : Slt := ⟨.j,.c⟩
def y146 : X := .t z146
def z147 : Slt := ⟨.j,.d⟩
def y147 : X := .t z147
def z148 : Slt := ⟨.j,.e⟩
def z149 : Slt := ⟨.j,.f⟩
def y149 : X := .t z149
def z151 : Slt := ⟨.j,.h⟩
def y151 : X := .t z151
def z152 : Slt := ⟨.j,.i⟩
def y152 : X := .t z152
def z153 : Slt := ⟨.j,.j⟩
def y153 : X := .t z153
def z154 : Slt := ⟨.j,.k⟩
def y154 : X := .t z154
def z155 : Slt := ⟨.j,.l⟩
def y155 : X := .t z155
def z156 : Slt := ⟨.j,.m⟩
def y156 : X := .t z156
def z157 : Slt := ⟨.j,.n⟩
def y157 : X := .t z157
def z158 : Slt := ⟨.j,.o⟩
def z159 : Slt := ⟨.j,.p⟩
def y159 : X := .t z159
def z161 : Slt := ⟨.k,.b⟩
def y161 : X := .t z161
def z162 : Slt := ⟨.k,.c⟩
def y162 : X := .t z162
def z163 : Slt := ⟨.k,.d⟩
def y163 : X := .t z163
def z164 : Slt := ⟨.k,.e⟩
def y164 : X := .t z164
def z165 : Slt := ⟨.k,.f⟩
def y165 : X := .t z165
def z166 : Slt := ⟨.k,.g⟩
def y166 : X := .t z166
def z167 : Slt := ⟨.k,.h⟩
def y167 : X := .t z167
def z168 : Slt := ⟨.k,.i⟩
def y168 : X := .t z168
def z169 : Slt := ⟨.k,.j⟩
def y169 : X := .t z169
def z170 : Slt := ⟨.k,.k⟩
def y170 : X := .t z170
def z172 : Slt := ⟨.k,.m⟩
def y172 : X := .t z172
def z173 : Slt := ⟨.k,.n⟩
def y173 : X := .t z173
def z174 : Slt := ⟨.k,.o⟩
def y174 : X := .t z174
def z175 : Slt := ⟨.k,.p⟩
def y175 : X := .t z175
def z176 : Slt := ⟨.l,.a⟩
def y176 : X := .t z176
def z178 : Slt := ⟨.l,.c⟩
def y178 : X := .t z178
def z180 : Slt := ⟨.l,.e⟩
def z183 : Slt := ⟨.l,.h⟩
def y183 : X := .t z183
def z184 : Slt := ⟨.l,.i⟩
def y184 : X := .t z184
def z185 : Slt := ⟨.l,.j⟩
end
end Ev
end
section
namespace Ev
variable [Tx]
set_option autoImplicit false
noncomputable section
def cf10 : CF := ⟨80,0,qR [qM z0 qB] (qR [qC z5 16 [qS [60,112,62,97,60,98,62,98,60,112,62,99]],qC z6 11 [y5],qO z7 (.ext 0 y6),qO z8 (.ext 1 y6),qO z1 (.new 28 (.c (.a [.i .i64 (.ofNat 0),.s [],.s
 [],.sl none 0 0 0,.sl none 0 0 0]))),qE (.st 5 y1 y7),qM z2 y8] (.seq (qR [qO z10 (.bin .neq y2 (qI 0)),qM z11 y10,qH z12 z11 (.fa 4 y1),qH z13 z11 (.ld 1 false y12),qH z14 z11 (.len true
 y13),qH z15 z11 (.bin .neq y14 (qI 1)),qO z16 (.pk y11 qT y15),qM z17 y16,qH z18 z17 (.fa 4 y1),qH z19 z17 (.ld 1 false y18),qH z20 z17 (.ia 5 y19 (qI 0)),qH z21 z17 (.fa 4 y20),qH z22 z17
 (.ld 1 false y21),qH z23 z17 (.len true y22),qH z24 z17 (.bin .neq y23 (qI 2)),qO z25 (.pk y17 qT y24)] (.cond y25 (qR [qM z0 qB] .ret) .skip)) (qR [qF z26 4 y1,qL z27 y26,qO z28 (.ia 5 y27 (qI
 0)),qF z29 4 y28,qL z30 y29,qO z31 (.ia 5 y30 (qI 1)),qF z32 4 y31,qL z33 y32,qM z3 y33] (qR [qO z35 (.len true y3),qO z36 (.bin .eql y35 (qI 2)),qM z37 y36,qG z38 z37 (.mv y3),qG z39 z37
 (.ia 5 y38 (qI 0)),qG z40 z37 (.fa 1 y39),qG z41 z37 (.ld 1 false y40),qG z42 z37 (.bin .eql y41 (qS [112])),qO z43 (.pk y37 y42 qB),qM z44 y43,qG z45 z44 (.mv y3),qG z46 z44 (.ia 5 y45 (qI
 0)),qG z47 z44 (.fa 4 y46),qG z48 z44 (.ld 1 false y47),qG z49 z44 (.len true y48),qG z50 z44 (.bin .eql y49 (qI 2)),qO z51 (.pk y44 y50 qB),qM z52 y51,qG z53 z52 (.mv y3),qG z54 z52 (.ia 5
 y53 (qI 0)),qG z55 z52 (.fa 4 y54),qG z56 z52 (.ld 1 false y55),qG z57 z52 (.ia 5 y56 (qI 1)),qG z58 z52 (.fa 1 y57),qG z59 z52 (.ld 1 false y58),qG z60 z52 (.bin .eql y59 (qS [98])),qO z61
 (.pk y52 y60 qB),qM z62 y61,qG z63 z62 (.mv y3),qG z64 z62 (.ia 5 y63 (qI 1)),qG z65 z62 (.fa 4 y64),qG z66 z62 (.ld 1 false y65),qG z67 z62 (.len true y66),qG z68 z62 (.bin .eql y67 (qI 1)),
 qO z69 (.pk y62 y68 qB),qM z70 y69,qG z71 z70 (.mv y3),qG z72 z70 (.ia 5 y71 (qI 1)),qG z73 z70 (.fa 4 y72),qG z74 z70 (.ld 1 false y73),qG z75 z70 (.ia 5 y74 (qI 0)),qG z76 z70 (.fa 1 y75),
 qG z77 z70 (.ld 1 false y76),qG z78 z70 (.bin .eql y77 (qS [98])),qO z79 (.pk y70 y78 qB),qM z0 y79] .ret)))),[(z0,none)]⟩
theorem ok10 : FnR Tryz.prog 0 10 cf10 := fnC_ok [4,9,34] Tryz.func10 (by kernel_rfl) (by kernel_rfl)
def cf11 : CF := ⟨54,1,qR [qO z2 (.new 28 (.c (.a [.i .i64 (.ofNat 0),.s [],.s [],.sl none 0 0 0,.sl none 0 0 0]))),qM z3 (qI 0)] (qR [qO z8 (.bld [.i .i64 (.ofNat 0),.i .i64 (.ofNat 0),.s [],.s [],.sl
 none 0 0 0,.p none,.sl none 0 0 0] [(1,(1,qI 1))]),qO z9 (.new 56 y8),qC z10 19 [],qO z11 (.bld [.p none,.p none,.i .i64 (.ofNat 0),.sl none 0 0 0,.p none,.i .i64 (.ofNat 0),.b false,.b
 false] [(0,(1,y9)),(2,(1,qI 1)),(4,(1,y10))]),qO z12 (.new 60 y11),qM z4 y12] (.seq .skip (.seq (qR [qM z13 y0,qO z14 (.len true y13),qM z15 (qI 0)] (.blk 0 (.loop (qR [qO z16 (.bin .lss
 y15 y14)] (.seq (.cond y16 .skip (.exit 0)) (.seq (.blk 1 (qR [qO z17 (.ia 5 y13 y15),qO z18 (.ld 5 true y17),qO z6 (.new 51 (.c (.a [.i .i64 (.ofNat 0),.s [],.s [],.sl none 0 0 0,.b false]))),
 qE (.st 5 y6 y18)] (.seq (qR [qF z19 0 y6,qL z20 y19,qO z21 (.bin .eql y20 (qI 6)),qM z22 y21,qH z23 z22 (.mv y4),qH z24 z22 (.nc y23),qH z25 z22 (.fa 2 y24),qH z26 z22 (.ld 1 false y25),qH
 z27 z22 (.bin .gtr y26 (qI 300)),qO z28 (.pk y22 qT y27)] (.cond y28 (.exit 0) .skip)) (qR [qO z29 (.ld 5 true y6),qC z30 20 [y29]] (.cond y30 (.reg [qO z32 (.ld 5 true y6),qC z33 21 [y4,y32]])
 .skip))))) (.reg [qO z34 (.bin .add y15 (qI 1)),qM z15 y34]))))))) (qR [qO z36 (.bld [.i .i64 (.ofNat 0),.s [],.s [],.sl none 0 0 0,.b false] [(0,(1,qI 6))]),qC z37 21 [y4,y36]] (.seq (qR
 [qN z39 y4,qF z40 2 y39,qL z41 y40,qO z42 (.bin .gtr y41 (qI 300))] (.cond y42 (qR [qO z43 (.bld [.i .i64 (.ofNat 0),.s [],.s [],.sl none 0 0 0,.sl none 0 0 0] []),qE (.st 5 y2 y43),qM z3
 (qI 2)] .ret) .skip)) (qR [qN z45 y4,qF z46 0 y45,qL z47 y46,qC z48 22 [y47],qO z7 (.new 28 (.c (.a [.i .i64 (.ofNat 0),.s [],.s [],.sl none 0 0 0,.sl none 0 0 0]))),qE (.st 5 y7 y48)] (.seq
 (qR [qO z49 (.ld 5 true y7),qC z50 23 [y49],qO z51 (.un .not y50)] (.cond y51 (qR [qO z52 (.bld [.i .i64 (.ofNat 0),.s [],.s [],.sl none 0 0 0,.sl none 0 0 0] []),qE (.st 5 y2 y52),qM z3 (qI
 2)] .ret) .skip)) (qR [qO z53 (.ld 5 true y7),qE (.st 5 y2 y53),qM z3 (qI 0)] .ret)))))))),[(z2,some ((5,true))),(z3,none)]⟩
theorem ok11 : FnR Tryz.prog 0 11 cf11 := fnC_ok [31,35,38,44] Tryz.func11 (by kernel_rfl) (by kernel_rfl)
def cf16 : CF := ⟨57,1,qR [qM z2 (.c (.c (.sl none 0 0 0)))] (qR [qC z11 28 [y0],qM z3 y11] (qR [qM z4 (.c (.c (.sl none 0 0 0)))] (qR [qM z5 (qS [])] (qR [qM z6 (qI 0)] (.blk 0 (.loop (.blk 1 (qR [qC z16 29 [y3,
 y6,y5],qO z17 (.ext 0 y16),qO z18 (.ext 1 y16),qO z19 (.ext 2 y16),qO z7 (.new 51 (.c (.a [.i .i64 (.ofNat 0),.s [],.s [],.sl none 0 0 0,.b false]))),qE (.st 5 y7 y17),qM z8 y18,qM z9
 y19] (qR [qM z6 y8] (.seq (qR [qO z22 (.un .not y9)] (.cond y22 (.exit 1) .skip)) (qR [qO z24 (.ld 5 true y7),qO z25 (.bsl 51 5 1 [.i .i64 (.ofNat 0),.s [],.s [],.sl none 0 0 0,.b false] [(0,
 (5,y24))]),qO z26 (.app 51 5 false y4 y25),qM z4 y26] (.blk 2 (qR [qF z28 0 y7,qL z29 y28,qO z30 (.bin .eql y29 (qI 6)),qM z27 y30] (.cond y27 (qR [qM z2 y4] .ret) (qR [qF z33 0 y7,qL z34 y33,
 qO z35 (.bin .eql y34 (qI 1)),qM z36 y35,qG z37 z36 (.fa 1 y7),qG z38 z36 (.ld 1 false y37),qG z39 z36 (.call 30 [y38]),qG z40 z36 (.bin .gtr y39 (qI 0)),qO z41 (.pk y36 y40 qB),qM z32 y41]
 (.cond y32 (.reg [qF z42 1 y7,qL z43 y42,qM z5 y43]) (.seq (qR [qF z45 0 y7,qL z46 y45,qO z47 (.bin .eql y46 (qI 1)),qM z44 y47] (.cond y44 .skip (.reg [qF z48 0 y7,qL z49 y48,qO z50 (.bin
 .eql y49 (qI 2)),qM z51 y50,qG z52 z51 (.fa 1 y7),qG z53 z51 (.ld 1 false y52),qG z54 z51 (.mv y5),qG z55 z51 (.bin .eql y53 y54),qO z56 (.pk y51 y55 qB),qM z44 y56]))) (.cond y44 (.reg [qM z5
 (qS [])]) .skip)))))))))))))))))),[(z2,none)]⟩
theorem ok16 : FnR Tryz.prog 0 16 cf16 := fnC_ok [10,12,13,14,15,20,21,23,31] Tryz.func16 (by kernel_rfl) (by kernel_rfl)
def cf19 : CF := ⟨3,0,qR [qM z0 (.c (.c (.p none)))] (qR [qO z1 (.bld [.sl none 0 0 0] []),qO z2 (.new 73 y1),qM z0 y2] .ret),[(z0,none)]⟩
theorem ok19 : FnR Tryz.prog 0 19 cf19 := fnC_ok [] Tryz.func19 (by kernel_rfl) (by kernel_rfl)
def cf20 : CF := ⟨28,1,qR [qO z1 (.new 51 y0),qM z2 qB] (.seq (qR [qF z3 0 y1,qL z4 y3] (.blk 0 (qR [qO z6 (.bin .eql y4 (qI 1)),qM z5 y6] (.cond y5 (qR [qF z7 1 y1,qL z8 y7,qC z9 31 [y8],qM z2 y9] .ret) (qR
 [qO z11 (.bin .eql y4 (qI 3)),qM z10 y11] (.cond y10 (qR [qF z12 2 y1,qL z13 y12,qO z14 (.bin .neq y13 (qS [])),qM z2 y14] .ret) .skip)))))) (qR [qF z15 0 y1,qL z16 y15,qO z17 (.bin .eql y16
 (qI 2)),qM z18 y17,qH z19 z18 (.fa 0 y1),qH z20 z18 (.ld 1 false y19),qH z21 z18 (.bin .eql y20 (qI 4)),qO z22 (.pk y18 qT y21),qM z23 y22,qH z24 z23 (.fa 0 y1),qH z25 z23 (.ld 1 false y24),
 qH z26 z23 (.bin .eql y25 (qI 5)),qO z27 (.pk y23 qT y26),qM z2 y27] .ret)),[(z2,none)]⟩
theorem ok20 : FnR Tryz.prog 0 20 cf20 := fnC_ok [] Tryz.func20 (by kernel_rfl) (by kernel_rfl)
def cf21 : CF := ⟨55,2,qR [qO z3 (.new 51 y1)] (.seq (qR [qN z5 y0,qF z6 7 y5,qL z7 y6,qM z8 y7,qG z9 z8 (.fa 0 y3),qG z10 z8 (.ld 1 false y9),qG z11 z8 (.bin .eql y10 (qI 3)),qO z12 (.pk y8 y11 qB)] (.cond
 y12 (.reg [qF z13 2 y3,qL z14 y13,qC z15 32 [y14,qS [10]],qF z16 2 y3,qE (.st 1 y16 y15)]) .skip)) (qR [qF z18 0 y3,qL z19 y18,qO z20 (.bin .eql y19 (qI 1)),qM z21 y20,qG z22 z21 (.fa 1 y3),
 qG z23 z21 (.ld 1 false y22),qG z24 z21 (.bsl 9 1 3 [.s [],.s [],.s []] [(0,(1,qS [116,101,120,116,97,114,101,97])),(1,(1,qS [112,114,101])),(2,(1,qS [108,105,115,116,105,
 110,103]))]),qG z25 z21 (.call 33 [y23,y24]),qO z26 (.pk y21 y25 qB),qN z27 y0,qF z28 7 y27,qE (.st 1 y28 y26)] (.seq (qR [qF z29 0 y3,qL z30 y29,qO z31 (.bin .eql y30 (qI 3)),qM z32 y31,
 qG z33 z32 (.fa 2 y3),qG z34 z32 (.ld 1 false y33),qG z35 z32 (.bin .eql y34 (qS [])),qO z36 (.pk y32 y35 qB)] (.cond y36 .ret .skip)) (qR [qF z37 3 y3,qL z38 y37,qC z39 35 [y38],qC z40 34
 [y39,.c (.c (.f 36 []))],qF z41 3 y3,qE (.st 1 y41 y40)] (.seq (.blk 0 (.loop (.seq (qR [qN z43 y0,qF z44 2 y43,qL z45 y44,qO z46 (.bin .leq y45 (qI 300)),qM z47 y46,qG z48 z47 (.mv y0),qG
 z49 z47 (.ld 5 true y3),qG z50 z47 (.call 37 [y48,y49]),qO z51 (.pk y47 y50 qB)] (.cond y51 .skip (.exit 0))) (.blk 1 .skip)))) (.reg [qN z53 y0,qF z54 6 y53,qE (.st 1 y54 qB)])))))),[]⟩
theorem ok21 : FnR Tryz.prog 0 21 cf21 := fnC_ok [4,17,42,52] Tryz.func21 (by kernel_rfl) (by kernel_rfl)
def cf22 : CF := ⟨41,1,qR [qO z2 (.new 28 (.c (.a [.i .i64 (.ofNat 0),.s [],.s [],.sl none 0 0 0,.sl none 0 0 0])))] (.seq (.dreg [qM z6 y0,qN z7 y6,qF z8 1 y7,qL z9 y8,qM z10 y0,qN z11 y10,qF z12 2 y11,
 qL z13 y12,qM z14 y0,qN z15 y14,qF z16 3 y15,qL z17 y16,qM z18 y0,qN z19 y18,qF z20 4 y19,qL z21 y20,qO z22 (.bld [.i .i64 (.ofNat 0),.s [],.s [],.sl none 0 0 0,.sl none 0 0 0] [(0,(1,
 y9)),(1,(1,y13)),(2,(1,y17)),(3,(1,y21))]),qO z3 (.new 28 (.c (.a [.i .i64 (.ofNat 0),.s [],.s [],.sl none 0 0 0,.sl none 0 0 0]))),qE (.st 5 y3 y22)]) (.seq (qR [qN z24 y0,qF z25 6
 y24,qL z26 y25,qO z27 (.len true y26),qM z28 (qI 0)] (.blk 0 (.loop (qR [qO z29 (.bin .lss y28 y27)] (.seq (.cond y29 .skip (.exit 0)) (.seq (.blk 1 (qR [qO z30 (.ia 1 y26 y28),qL z31 y30,qM z5
 y31] (.dreg [qF z32 4 y3,qL z33 y32,qM z34 y5,⟨some z35,none,.call 22 [y34],[⟨some z33,none,.ld 1 false y32⟩]⟩,qO z36 (.bsl 28 5 1 [.i .i64 (.ofNat 0),.s [],.s [],.sl none 0 0 0,.sl none
 0 0 0] [(0,(5,y35))]),qO z37 (.app 28 5 false y33 y36),qF z38 4 y3,qE (.st 1 y38 y37)]))) (.reg [qO z39 (.bin .add y28 (qI 1)),qM z28 y39]))))))) (qR [qO z40 (.ld 5 true y3),qE (.st 5 y2 y40)]
 .ret))),[(z2,some ((5,true)))]⟩
theorem ok22 : FnR Tryz.prog 0 22 cf22 := fnC_ok [23] Tryz.func22 (by kernel_rfl) (by kernel_rfl)
def cf23 : CF := ⟨34,1,qR [qO z1 (.new 28 y0),qM z2 qB] (qR [qF z3 0 y1,qL z4 y3,qO z5 (.bin .eql y4 (qI 1)),qM z6 y5,qG z7 z6 (.ld 5 true y1),qG z8 z6 (.call 38 [y7]),qG z9 z6 (.bin .leq y8 (qI 300)),qO
 z10 (.pk y6 y9 qB),qM z11 y10,qG z12 z11 (.ld 5 true y1),qG z13 z11 (.call 39 [y12]),qG z14 z11 (.bin .leq y13 (qI 60)),qO z15 (.pk y11 y14 qB),qM z16 y15,qG z17 z16 (.fa 1 y1),qG z18 z16
 (.ld 1 false y17),qG z19 z16 (.fa 2 y1),qG z20 z16 (.ld 1 false y19),qG z21 z16 (.bsl 9 1 2 [.s [],.s []] [(0,(1,y18)),(1,(1,y20))]),qG z22 z16 (.call 40 [y21]),qO z23 (.pk y16 y22 qB),qM
 z24 y23,qG z25 z24 (.fa 3 y1),qG z26 z24 (.ld 1 false y25),qG z27 z24 (.len true y26),qG z28 z24 (.bin .eql y27 (qI 0)),qO z29 (.pk y24 y28 qB),qM z30 y29,qG z31 z30 (.ld 5 true y1),qG z32
 z30 (.call 41 [y31]),qO z33 (.pk y30 y32 qB),qM z2 y33] .ret),[(z2,none)]⟩
theorem ok23 : FnR Tryz.prog 0 23 cf23 := fnC_ok [] Tryz.func23 (by kernel_rfl) (by kernel_rfl)
def cf28 : CF := ⟨59,1,qR [qM z2 (qS [])] (qR [qM z3 (qS [])] (.seq (qR [qM z4 (qI 0)] (.blk 0 (.loop (.seq (qR [qO z9 (.len false y0),qO z10 (.bin .lss y4 y9)] (.cond y10 .skip (.exit 0))) (.blk 1 (qR [qC z14 45
 [y0,y4],qO z15 (.ext 0 y14),qO z16 (.ext 1 y14),qM z6 y16] (.seq (.blk 2 (qR [qO z27 (.bin .eql y6 (qI 0)),qM z28 y27,qH z29 z28 (.mv y0),qH z30 z28 (.mv y4),qH z31 z28 (.sx y29 y30),qH z32
 z28 (.bin .eql y31 (.c (.c (.i .u8 (.ofNat 0))))),qO z33 (.pk y28 qT y32),qM z25 y33] (.cond y25 (qR [qO z35 (.bin .add y3 (qS [239,191,189])),qM z3 y35] (.reg [qM z6 (qI 1)])) (qR [qO z39 (.sx
 y0 y4),qO z40 (.bin .eql y39 (.c (.c (.i .u8 (.ofNat 13))))),qM z36 y40] (.cond y36 (qR [qO z42 (.bin .add y3 (qS [10])),qM z3 y42] (qR [qO z44 (.bin .add y4 (qI 1)),qO z46 (.len false y0),qO
 z47 (.bin .lss y44 y46),qM z48 y47,qG z49 z48 (.mv y0),qG z50 z48 (.mv y4),qG z51 z48 (.bin .add y50 (qI 1)),qG z52 z48 (.sx y49 y51),qG z53 z48 (.bin .eql y52 (.c (.c (.i .u8 (.ofNat 10))))),
 qO z54 (.pk y48 y53 qB)] (.cond y54 (.reg [qM z6 (qI 2)]) .skip))) (.reg [qO z22 (.bin .add y4 y6),qO z23 (.sls y0 (some y4) (some y22)),qO z24 (.bin .add y3 y23),qM z3 y24])))))) (.reg [qO z57
 (.bin .add y4 y6),qM z4 y57])))))))) (qR [qM z2 y3] .ret))),[(z2,none)]⟩
theorem ok28 : FnR Tryz.prog 0 28 cf28 := fnC_ok [5,7,8,11,12,13,17,18,19,20,21,26,34,37,38,41,43,45,55,56,58] Tryz.func28 (by kernel_rfl) (by kernel_rfl)
def cf29 : CF := ⟨160,3,qR [qO z6 (.new 51 (.c (.a [.i .i64 (.ofNat 0),.s [],.s [],.sl none 0 0 0,.b false]))),qM z7 (qI 0),qM z8 qB] (.seq (qR [qO z13 (.bin .lss y1 (qI 0)),qM z14 y13,qH z15 z14 (.mv y1),
 qH z16 z14 (.mv y0),qH z17 z14 (.len false y16),qH z18 z14 (.bin .geq y15 y17),qO z19 (.pk y14 qT y18)] (.cond y19 (qR [qO z20 (.bld [.i .i64 (.ofNat 0),.s [],.s [],.sl none 0 0 0,.b false]
 [(0,(1,qI 6))]),qO z22 (.len false y0),qE (.st 5 y6 y20),qM z7 y22,qM z8 qT] .ret) .skip)) (.seq (qR [qO z24 (.bin .neq y2 (qS []))] (.cond y24 (qR [qC z26 46 [y2],qM z9 y26] (qR [qM z10 y1]
 (.seq (.blk 0 (.loop (.seq (qR [qO z30 (.len false y0),qO z31 (.bin .lss y10 y30),qM z32 y31,qG z33 z32 (.mv y0),qG z34 z32 (.mv y10),qG z35 z32 (.mv y9),qG z36 z32 (.call 47 [y33,y34,y35]),
 qG z37 z32 (.un .not y36),qO z38 (.pk y32 y37 qB)] (.cond y38 .skip (.exit 0))) (.blk 1 (.reg [qO z40 (.bin .add y10 (qI 1)),qM z10 y40]))))) (qR [qO z43 (.bin .gtr y10 y1)] (.cond y43 (qR [qO z47
 (.sls y0 (some y1) (some y10)),qM z11 y47] (.seq (qR [qC z49 30 [y9],qO z50 (.bin .eql y49 (qI 1))] (.cond y50 (.reg [qC z52 48 [y11,qB],qM z11 y52]) .skip)) (qR [qO z54 (.bld [.i .i64 (.ofNat
 0),.s [],.s [],.sl none 0 0 0,.b false] [(0,(1,qI 3)),(2,(1,y11)),(4,(1,qT))]),qE (.st 5 y6 y54),qM z7 y10,qM z8 qT] .ret))) .skip))))) .skip)) (.seq (.blk 2 (qR [qO z59 (.sx y0 y1),
 qO z60 (.bin .neq y59 (.c (.c (.i .u8 (.ofNat 60))))),qM z56 y60] (.cond y56 (qR [qC z63 49 [y0,y1],qO z64 (.ext 0 y63),qO z65 (.ext 1 y63),qO z66 (.ext 2 y63),qE (.st 5 y6 y64),qM z7 y65,qM
 z8 y66] .ret) (qR [qO z70 (.bin .add y1 (qI 1)),qC z71 50 [y0,y70],qM z67 y71] (.cond y67 (qR [qO z74 (.bin .add y1 (qI 1)),qC z75 51 [y0,y74,qI 1],qO z76 (.ext 0 y75),qO z77 (.ext 1 y75),qO
 z78 (.ext 2 y75),qE (.st 5 y6 y76),qM z7 y77,qM z8 y78] .ret) (qR [qC z82 52 [y0,y1,qS [60,47]],qM z83 y82,qG z84 z83 (.mv y0),qG z85 z83 (.mv y1),qG z86 z83 (.bin .add y85 (qI 2)),qG z87
 z83 (.call 50 [y84,y86]),qO z88 (.pk y83 y87 qB),qM z79 y88] (.cond y79 (qR [qO z91 (.bin .add y1 (qI 2)),qC z92 51 [y0,y91,qI 2],qO z93 (.ext 0 y92),qO z94 (.ext 1 y92),qO z95 (.ext 2 y92),
 qE (.st 5 y6 y93),qM z7 y94,qM z8 y95] .ret) (qR [qC z99 52 [y0,y1,qS [60,33,45,45]],qM z96 y99] (.cond y96 (qR [qO z102 (.bin .add y1 (qI 4)),qC z103 53 [y0,y102],qO z104 (.ext 0 y103),
 qO z105 (.ext 1 y103),qO z106 (.ext 2 y103),qE (.st 5 y6 y104),qM z7 y105,qM z8 y106] .ret) (qR [qC z110 52 [y0,y1,qS [60,33,100,111,99,116,121,112,101]],qM z107 y110] (.cond y107 (qR
 [qO z113 (.bin .add y1 (qI 9)),qC z114 54 [y0,y113],qO z115 (.ext 0 y114),qO z116 (.ext 1 y114),qO z117 (.ext 2 y114),qE (.st 5 y6 y115),qM z7 y116,qM z8 y117] .ret) (qR [qC z121 52 [y0,y1,
 qS [60,47,62]],qM z118 y121] (.cond y118 (qR [qO z122 (.bld [.i .i64 (.ofNat 0),.s [],.s [],.sl none 0 0 0,.b false] []),qO z124 (.bin .add y1 (qI 3)),qE (.st 5 y6 y122),qM z7 y124,qM z8
 qB] .ret) (.seq (qR [qC z128 52 [y0,y1,qS [60,33]],qM z125 y128] (.cond y125 .skip (.reg [qC z131 52 [y0,y1,qS [60,47]],qM z132 y131,qG z133 z132 (.mv y1),qG z134 z132 (.bin .add y133 (qI
 2)),qG z135 z132 (.mv y0),qG z136 z132 (.len false y135),qG z137 z132 (.bin .lss y134 y136),qO z138 (.pk y132 y137 qB),qM z125 y138]))) (.cond y125 (qR [qO z141 (.bin .add y1 (qI 2)),qC z142 55
 [y0,y141],qO z143 (.ext 0 y142),qO z144 (.ext 1 y142),qO z145 (.ext 2 y142),qE (.st 5 y6 y143),qM z7 y144,qM z8 y145] .ret) (qR [qC z149 52 [y0,y1,qS [60,63]],qM z146 y149] (.cond y146 (qR
 [qO z152 (.bin .add y1 (qI 1)),qC z153 55 [y0,y152],qO z154 (.ext 0 y153),qO z155 (.ext 1 y153),qO z156 (.ext 2 y153),qE (.st 5 y6 y154),qM z7 y155,qM z8 y156] .ret) .skip)))))))))))))))))
 (qR [qO z157 (.bld [.i .i64 (.ofNat 0),.s [],.s [],.sl none 0 0 0,.b false] [(0,(1,qI 3)),(2,(1,qS [60]))]),qO z159 (.bin .add y1 (qI 1)),qE (.st 5 y6 y157),qM z7 y159,qM z8 qT]
 .ret)))),[(z6,some ((5,true))),(z7,none),(z8,none)]⟩
theorem ok29 : FnR Tryz.prog 0 29 cf29 := fnC_ok [12,21,23,25,27,28,29,39,41,42,44,45,46,48,51,53,55,57,58,61,62,68,69,72,73,80,81,89,90,97,98,100,101,108,109,111,112,119,120,123,126,127,129,130,139,140,147,148,150,151,158] Tryz.func29 (by kernel_rfl) (by kernel_rfl)
def cf30 : CF := ⟨14,1,qR [qM z2 (qI 0)] (.seq (qR [qM z3 y0] (.blk 0 (.seq (qR [qO z5 (.bin .eql y3 (qS [116,105,116,108,101])),qM z4 y5] (.cond y4 .skip (.reg [qO z6 (.bin .eql y3 (qS [116,101,120,116,
 97,114,101,97])),qM z4 y6]))) (.cond y4 (qR [qM z2 (qI 1)] .ret) (.seq (qR [qO z8 (.bin .eql y3 (qS [115,116,121,108,101])),qM z7 y8] (.cond y7 .skip (qR [qO z9 (.bin .eql y3 (qS [115,99,
 114,105,112,116])),qM z7 y9] (.cond y7 .skip (qR [qO z10 (.bin .eql y3 (qS [120,109,112])),qM z7 y10] (.cond y7 .skip (qR [qO z11 (.bin .eql y3 (qS [105,102,114,97,109,101])),qM z7 y11]
 (.cond y7 .skip (qR [qO z12 (.bin .eql y3 (qS [110,111,101,109,98,101,100])),qM z7 y12] (.cond y7 .skip (.reg [qO z13 (.bin .eql y3 (qS [110,111,102,114,97,109,101,115])),qM z7
 y13]))))))))))) (.cond y7 (qR [qM z2 (qI 2)] .ret) .skip)))))) (qR [qM z2 (qI 0)] .ret)),[(z2,none)]⟩
theorem ok30 : FnR Tryz.prog 0 30 cf30 := fnC_ok [] Tryz.func30 (by kernel_rfl) (by kernel_rfl)
def cf31 : CF := ⟨40,1,qR [qM z2 qB] (.seq (qR [qO z6 (.bin .eql y0 (qS [])),qM z7 y6,qH z8 z7 (.mv y0),qH z9 z7 (.len false y8),qH z10 z7 (.bin .gtr y9 (qI 32)),qO z11 (.pk y7 qT y10)] (.cond y11 (qR [qM z2
 qB] .ret) .skip)) (.seq (qR [qO z13 (.len false y0),qM z14 (qI 0)] (.blk 0 (.loop (qR [qO z15 (.bin .lss y14 y13)] (.seq (.cond y15 .skip (.exit 0)) (.seq (.blk 1 (qR [qM z3 y14] (qR [qO z19 (.sx y0
 y3),qM z4 y19] (qR [qM z20 y4] (.blk 2 (.seq (qR [qO z28 (.bin .eql y20 (.c (.c (.i .u8 (.ofNat 9))))),qM z27 y28] (.cond y27 .skip (qR [qO z29 (.bin .eql y20 (.c (.c (.i .u8 (.ofNat 10))))),qM
 z27 y29] (.cond y27 .skip (qR [qO z30 (.bin .eql y20 (.c (.c (.i .u8 (.ofNat 12))))),qM z27 y30] (.cond y27 .skip (qR [qO z31 (.bin .eql y20 (.c (.c (.i .u8 (.ofNat 32))))),qM z27 y31] (.cond y27
 .skip (qR [qO z32 (.bin .eql y20 (.c (.c (.i .u8 (.ofNat 0))))),qM z27 y32] (.cond y27 .skip (qR [qO z33 (.bin .eql y20 (.c (.c (.i .u8 (.ofNat 34))))),qM z27 y33] (.cond y27 .skip (qR [qO z34
 (.bin .eql y20 (.c (.c (.i .u8 (.ofNat 39))))),qM z27 y34] (.cond y27 .skip (qR [qO z35 (.bin .eql y20 (.c (.c (.i .u8 (.ofNat 62))))),qM z27 y35] (.cond y27 .skip (qR [qO z36 (.bin .eql y20 (.c
 (.c (.i .u8 (.ofNat 47))))),qM z27 y36] (.cond y27 .skip (qR [qO z37 (.bin .eql y20 (.c (.c (.i .u8 (.ofNat 61))))),qM z27 y37] (.cond y27 .skip (.reg [qO z38 (.bin .eql y20 (.c (.c (.i .u8 (.ofNat
 60))))),qM z27 y38]))))))))))))))))))))) (.cond y27 (qR [qM z2 qB] .ret) (qR [qO z22 (.bin .geq y4 (.c (.c (.i .u8 (.ofNat 65))))),qM z23 y22,qG z24 z23 (.mv y4),qG z25 z23 (.bin .leq y24 (.c (.c
 (.i .u8 (.ofNat 90))))),qO z26 (.pk y23 y25 qB)] (.cond y26 (qR [qM z2 qB] .ret) .skip))))))))) (.reg [qO z39 (.bin .add y14 (qI 1)),qM z14 y39]))))))) (qR [qM z2 qT] .ret))),[(z2,none)]⟩
theorem ok31 : FnR Tryz.prog 0 31 cf31 := fnC_ok [5,12,16,17,18,21] Tryz.func31 (by kernel_rfl) (by kernel_rfl)
def cf33 : CF := ⟨17,2,qR [qM z4 qB] (.seq (qR [qM z7 y1,qO z8 (.len true y7),qM z9 (qI 0)] (.blk 0 (.loop (qR [qO z10 (.bin .lss y9 y8)] (.seq (.cond y10 .skip (.exit 0)) (.seq (.blk 1 (qR [qO z11 (.ia 1 y7 y9),
 qL z12 y11,qM z6 y12] (qR [qO z15 (.bin .eql y6 y0)] (.cond y15 (qR [qM z4 qT] .ret) .skip)))) (.reg [qO z16 (.bin .add y9 (qI 1)),qM z9 y16]))))))) (qR [qM z4 qB] .ret)),[(z4,none)]⟩
theorem ok33 : FnR Tryz.prog 0 33 cf33 := fnC_ok [13,14] Tryz.func33 (by kernel_rfl) (by kernel_rfl)
def cf34 : CF := ⟨42,2,qR [qM z4 (.c (.c (.sl none 0 0 0)))] (qR [qC z10 57 [y0,y1],qM z5 y10] (.seq (qR [qO z12 (.bin .eql y5 (.c (.c (.i .i64 (.negSucc 0)))))] (.cond y12 (qR [qM z4 y0] .ret) .skip)) (.seq (qR
 [qO z15 (.bin .add y5 (qI 1)),qM z6 y15] (.blk 0 (.loop (.seq (qR [qO z18 (.len true y0),qO z19 (.bin .lss y6 y18)] (.cond y19 .skip (.exit 0))) (.seq (.blk 1 (qR [qO z24 (.ia 2 y0 y6),qO z25 (.ld
 2 true y24),qO z7 (.new 79 (.c (.a [.s [],.s []]))),qE (.st 2 y7 y25)] (qR [qO z27 (.ld 2 true y7),qO z28 (.callv y1 [y27]),qO z29 (.un .not y28)] (.cond y29 (qR [qO z32 (.ld 2 true y7),qO z33
 (.ia 2 y0 y5),qE (.st 2 y33 y32)] (.reg [qO z35 (.bin .add y5 (qI 1)),qM z5 y35])) .skip)))) (.reg [qO z21 (.bin .add y6 (qI 1)),qM z6 y21])))))) (qR [qO z38 (.slc 2 y0 (some y5) none none),qE
 (.clr [.s [],.s []] y38)] (qR [qO z41 (.slc 2 y0 none (some y5) none),qM z4 y41] .ret))))),[(z4,none)]⟩
theorem ok34 : FnR Tryz.prog 0 34 cf34 := fnC_ok [8,9,11,13,14,16,17,20,22,23,26,30,31,34,36,37,39,40] Tryz.func34 (by kernel_rfl) (by kernel_rfl)
def cf35 : CF := ⟨8,1,qR [qM z2 (.c (.c (.sl none 0 0 0)))] (.seq (qR [qO z4 (.sq false y0 (.c (.c (.sl none 0 0 0))))] (.cond y4 (qR [qM z2 (.c (.c (.sl none 0 0 0)))] .ret) .skip)) (qR [qO z5 (.bsl 79 1 0 [] []),
 qO z7 (.app 79 2 false y5 y0),qM z2 y7] .ret)),[(z2,none)]⟩
theorem ok35 : FnR Tryz.prog 0 35 cf35 := fnC_ok [3,6] Tryz.func35 (by kernel_rfl) (by kernel_rfl)
def cf37 : CF := ⟨114,2,qR [qO z3 (.new 51 y1),qM z4 qB] (.seq (qR [qC z7 58 [y0],qM z5 y7] (qR [qN z9 y5,qF z10 2 y9,qL z11 y10,qC z12 59 [y11]] (.cond y12 (.seq (.blk 0 (qR [qF z14 0 y3,qL z15 y14,qO z16
 (.bin .eql y15 (qI 3)),qM z13 y16] (.cond y13 (qR [qF z18 2 y3,qL z19 y18,qC z20 60 [y0,y19]] (qR [qM z4 qB] .ret)) (.seq (.dreg [qO z22 (.ld 5 true y3),qM z23 y5,qN z24 y23,qF z25 2 y24,qL
 z26 y25,qO z27 (.bsl 9 1 1 [.s []] [(0,(1,y26))]),qC z28 61 [y22,y27],qM z21 y28]) (.cond y21 (qR [qC z30 62 [y0,qI 1]] (qR [qM z4 qB] .ret)) (qR [qF z32 0 y3,qL z33 y32,qO z34 (.bin .eql
 y33 (qI 4)),qM z35 y34,qH z36 z35 (.fa 0 y3),qH z37 z35 (.ld 1 false y36),qH z38 z35 (.bin .eql y37 (qI 5)),qO z39 (.pk y35 qT y38),qM z40 y39,qH z41 z40 (.fa 0 y3),qH z42 z40 (.ld 1 false
 y41),qH z43 z40 (.bin .eql y42 (qI 2)),qO z44 (.pk y40 qT y43),qM z31 y44] (.cond y31 (qR [qM z4 qB] .ret) .skip))))))) (qR [qC z46 62 [y0,qI 1]] (qR [qM z4 qT] .ret))) .skip))) (.seq (qR [qN z48
 y0,qF z49 5 y48,qL z50 y49] (.blk 1 (qR [qO z52 (.bin .eql y50 (qI 0)),qM z51 y52] (.cond y51 (qR [qO z54 (.ld 5 true y3),qC z55 63 [y0,y54],qM z4 y55] .ret) (qR [qO z57 (.bin .eql y50 (qI 1)),
 qM z56 y57] (.cond y56 (qR [qO z59 (.ld 5 true y3),qC z60 64 [y0,y59],qM z4 y60] .ret) (qR [qO z62 (.bin .eql y50 (qI 2)),qM z61 y62] (.cond y61 (qR [qO z64 (.ld 5 true y3),qC z65 65 [y0,y64],
 qM z4 y65] .ret) (qR [qO z67 (.bin .eql y50 (qI 3)),qM z66 y67] (.cond y66 (qR [qO z69 (.ld 5 true y3),qC z70 66 [y0,y69],qM z4 y70] .ret) (qR [qO z72 (.bin .eql y50 (qI 4)),qM z71 y72] (.cond
 y71 (qR [qO z74 (.ld 5 true y3),qC z75 67 [y0,y74],qM z4 y75] .ret) (qR [qO z77 (.bin .eql y50 (qI 6)),qM z76 y77] (.cond y76 (qR [qO z79 (.ld 5 true y3),qC z80 68 [y0,y79],qM z4 y80] .ret)
 (qR [qO z82 (.bin .eql y50 (qI 7)),qM z81 y82] (.cond y81 (qR [qO z84 (.ld 5 true y3),qC z85 69 [y0,y84],qM z4 y85] .ret) (qR [qO z87 (.bin .eql y50 (qI 8)),qM z86 y87] (.cond y86 (qR [qO z89
 (.ld 5 true y3),qC z90 70 [y0,y89],qM z4 y90] .ret) (qR [qO z92 (.bin .eql y50 (qI 9)),qM z91 y92] (.cond y91 (qR [qO z94 (.ld 5 true y3),qC z95 71 [y0,y94],qM z4 y95] .ret) (qR [qO z97 (.bin
 .eql y50 (qI 10)),qM z96 y97] (.cond y96 (qR [qO z99 (.ld 5 true y3),qC z100 72 [y0,y99],qM z4 y100] .ret) (qR [qO z102 (.bin .eql y50 (qI 11)),qM z101 y102] (.cond y101 (qR [qO z104 (.ld 5 true
 y3),qC z105 73 [y0,y104],qM z4 y105] .ret) (qR [qO z107 (.bin .eql y50 (qI 12)),qM z106 y107] (.cond y106 (qR [qO z109 (.ld 5 true y3),qC z110 74 [y0,y109],qM z4 y110] .ret)
 .skip)))))))))))))))))))))))))) (qR [qO z112 (.ld 5 true y3),qC z113 75 [y0,y112],qM z4 y113] .ret))),[(z4,none)]⟩
theorem ok37 : FnR Tryz.prog 0 37 cf37 := fnC_ok [6,8,17,29,45,47,53,58,63,68,73,78,83,88,93,98,103,108,111] Tryz.func37 (by kernel_rfl) (by kernel_rfl)
def cf38 : CF := ⟨19,1,qR [qO z1 (.new 28 y0),qM z2 (qI 0)] (qR [qM z3 (qI 1)] (.seq (qR [qF z6 4 y1,qL z7 y6,qO z8 (.len true y7),qM z9 (qI 0)] (.blk 0 (.loop (qR [qO z10 (.bin .lss y9 y8)] (.seq (.cond y10
 .skip (.exit 0)) (.seq (.blk 1 (qR [qO z11 (.ia 5 y7 y9),qO z12 (.ld 5 true y11),qO z5 (.new 28 (.c (.a [.i .i64 (.ofNat 0),.s [],.s [],.sl none 0 0 0,.sl none 0 0 0]))),qE (.st 5 y5 y12)]
 (.reg [qO z14 (.ld 5 true y5),qC z15 38 [y14],qO z16 (.bin .add y3 y15),qM z3 y16]))) (.reg [qO z17 (.bin .add y9 (qI 1)),qM z9 y17]))))))) (qR [qM z2 y3] .ret))),[(z2,none)]⟩
theorem ok38 : FnR Tryz.prog 0 38 cf38 := fnC_ok [13,18] Tryz.func38 (by kernel_rfl) (by kernel_rfl)
def cf39 : CF := ⟨20,1,qR [qO z1 (.new 28 y0),qM z2 (qI 0)] (qR [qM z3 (qI 0)] (.seq (qR [qF z6 4 y1,qL z7 y6,qO z8 (.len true y7),qM z9 (qI 0)] (.blk 0 (.loop (qR [qO z10 (.bin .lss y9 y8)] (.seq (.cond y10
 .skip (.exit 0)) (.seq (.blk 1 (qR [qO z11 (.ia 5 y7 y9),qO z12 (.ld 5 true y11),qO z5 (.new 28 (.c (.a [.i .i64 (.ofNat 0),.s [],.s [],.sl none 0 0 0,.sl none 0 0 0]))),qE (.st 5 y5 y12)]
 (.reg [qO z14 (.ld 5 true y5),qC z15 39 [y14],qO z16 (.mx y3 y15),qM z3 y16]))) (.reg [qO z17 (.bin .add y9 (qI 1)),qM z9 y17]))))))) (qR [qO z19 (.bin .add y3 (qI 1)),qM z2 y19] .ret))),[(z2,
 none)]⟩
theorem ok39 : FnR Tryz.prog 0 39 cf39 := fnC_ok [13,18] Tryz.func39 (by kernel_rfl) (by kernel_rfl)
def cf40 : CF := ⟨14,1,qR [qM z2 qB] (.seq (qR [qM z5 y0,qO z6 (.len true y5),qM z7 (qI 0)] (.blk 0 (.loop (qR [qO z8 (.bin .lss y7 y6)] (.seq (.cond y8 .skip (.exit 0)) (.seq (.blk 1 (qR [qO z9 (.ia 1 y5 y7),qL
 z10 y9,qM z4 y10] (qR [qO z12 (.bin .neq y4 (qS []))] (.cond y12 (qR [qM z2 qB] .ret) .skip)))) (.reg [qO z13 (.bin .add y7 (qI 1)),qM z7 y13]))))))) (qR [qM z2 qT] .ret)),[(z2,none)]⟩
theorem ok40 : FnR Tryz.prog 0 40 cf40 := fnC_ok [11] Tryz.func40 (by kernel_rfl) (by kernel_rfl)
def cf41 : CF := ⟨26,1,qR [qO z1 (.new 28 y0),qM z2 qB] (.seq (qR [qF z5 4 y1,qL z6 y5,qO z7 (.len true y6),qM z8 (qI 0)] (.blk 0 (.loop (qR [qO z9 (.bin .lss y8 y7)] (.seq (.cond y9 .skip (.exit 0)) (.seq
 (.blk 1 (qR [qO z10 (.ia 5 y6 y8),qO z11 (.ld 5 true y10),qO z4 (.new 28 (.c (.a [.i .i64 (.ofNat 0),.s [],.s [],.sl none 0 0 0,.sl none 0 0 0]))),qE (.st 5 y4 y11)] (qR [qO z12 (.ld 5 true
 y4),qC z13 76 [y12],qO z14 (.un .not y13),qM z15 y14,qH z16 z15 (.fa 0 y4),qH z17 z15 (.ld 1 false y16),qH z18 z15 (.bin .eql y17 (qI 5)),qH z19 z15 (.mv y18),qG z20 z19 (.fa 0 y1),qG z21
 z19 (.ld 1 false y20),qG z22 z19 (.bin .neq y21 (qI 1)),qH z23 z15 (.pk y19 y22 qB),qO z24 (.pk y15 qT y23)] (.cond y24 (qR [qM z2 qB] .ret) .skip)))) (.reg [qO z25 (.bin .add y8 (qI 1)),qM z8
 y25]))))))) (qR [qM z2 qT] .ret)),[(z2,none)]⟩
theorem ok41 : FnR Tryz.prog 0 41 cf41 := fnC_ok [] Tryz.func41 (by kernel_rfl) (by kernel_rfl)
def cf45 : CF := ⟨106,2,qR [qM z4 (.c (.c (.i .i32 (.ofNat 0)))),qM z5 (qI 0)] (qR [qO z13 (.sx y0 y1),qO z14 (.cv .i64 y13),qM z6 y14] (qR [qM z7 (qI 0),qM z8 (qI 0),qM z9 (qI 0)] (.seq (.blk 0 (qR [qO z17
 (.bin .lss y6 (qI 128)),qM z15 y17] (.cond y15 (qR [qO z19 (.cv .i32 y6),qM z4 y19,qM z5 (qI 1)] .ret) (qR [qO z22 (.bin .geq y6 (qI 192)),qM z23 y22,qG z24 z23 (.mv y6),qG z25 z23 (.bin .lss
 y24 (qI 224)),qO z26 (.pk y23 y25 qB),qM z20 y26] (.cond y20 (.reg [qO z28 (.bin .sub y6 (qI 192)),qM z7 (qI 2),qM z8 y28,qM z9 (qI 128)]) (qR [qO z31 (.bin .geq y6 (qI 224)),qM z32 y31,qG z33
 z32 (.mv y6),qG z34 z32 (.bin .lss y33 (qI 240)),qO z35 (.pk y32 y34 qB),qM z29 y35] (.cond y29 (.reg [qO z37 (.bin .sub y6 (qI 224)),qM z7 (qI 3),qM z8 y37,qM z9 (qI 2048)]) (qR [qO z40 (.bin
 .geq y6 (qI 240)),qM z41 y40,qG z42 z41 (.mv y6),qG z43 z41 (.bin .lss y42 (qI 248)),qO z44 (.pk y41 y43 qB),qM z38 y44] (.cond y38 (.reg [qO z46 (.bin .sub y6 (qI 240)),qM z7 (qI 4),qM z8
 y46,qM z9 (qI 65536)]) .skip))))))))) (.seq (qR [qM z10 (qI 1)] (.blk 1 (.loop (.seq (qR [qO z49 (.bin .lss y10 y7)] (.cond y49 .skip (.exit 1))) (.seq (.blk 2 (.seq (qR [qO z54 (.bin .add y1 y10),
 qO z56 (.len false y0),qO z57 (.bin .geq y54 y56),qM z58 y57,qH z59 z58 (.mv y0),qH z60 z58 (.mv y1),qH z61 z58 (.mv y10),qH z62 z58 (.bin .add y60 y61),qH z63 z58 (.sx y59 y62),qH z64 z58
 (.bin .lss y63 (.c (.c (.i .u8 (.ofNat 128))))),qO z65 (.pk y58 qT y64),qM z66 y65,qH z67 z66 (.mv y0),qH z68 z66 (.mv y1),qH z69 z66 (.mv y10),qH z70 z66 (.bin .add y68 y69),qH z71 z66 (.sx
 y67 y70),qH z72 z66 (.bin .gtr y71 (.c (.c (.i .u8 (.ofNat 191))))),qO z73 (.pk y66 qT y72)] (.cond y73 (qR [qM z4 (.c (.c (.i .i32 (.ofNat 0)))),qM z5 (qI 0)] .ret) .skip)) (.reg [qO z75 (.bin
 .mul (qI 64) y8),qO z79 (.bin .add y1 y10),qO z80 (.sx y0 y79),qO z81 (.cv .i64 y80),qO z82 (.bin .add y75 y81),qO z83 (.bin .sub y82 (qI 128)),qM z8 y83]))) (.reg [qO z51 (.bin .add y10 (qI
 1)),qM z10 y51])))))) (.seq (qR [qO z85 (.bin .eql y7 (qI 0)),qM z86 y85,qH z87 z86 (.mv y8),qH z88 z86 (.mv y9),qH z89 z86 (.bin .lss y87 y88),qO z90 (.pk y86 qT y89),qM z91 y90,qH z92 z91
 (.mv y8),qH z93 z91 (.bin .gtr y92 (qI 1114111)),qO z94 (.pk y91 qT y93),qM z95 y94,qH z96 z95 (.mv y8),qH z97 z95 (.bin .geq y96 (qI 55296)),qH z98 z95 (.mv y97),qG z99 z98 (.mv y8),qG z100
 z98 (.bin .leq y99 (qI 57343)),qH z101 z95 (.pk y98 y100 qB),qO z102 (.pk y95 qT y101)] (.cond y102 (qR [qM z4 (.c (.c (.i .i32 (.ofNat 0)))),qM z5 (qI 0)] .ret) .skip)) (qR [qO z104 (.cv .i32
 y8),qM z4 y104,qM z5 y7] .ret)))))),[(z4,none),(z5,none)]⟩
theorem ok45 : FnR Tryz.prog 0 45 cf45 := fnC_ok [11,12,16,18,21,27,30,36,39,45,47,48,50,52,53,55,74,76,77,78,84,103,105] Tryz.func45 (by kernel_rfl) (by kernel_rfl)
def cf46 : CF := ⟨35,1,qR [qM z2 (qS [])] (qR [qO z6 (.s2b 5 y0),qM z3 y6] (.seq (qR [qM z4 (qI 0)] (.blk 0 (.loop (.seq (qR [qO z9 (.len true y3),qO z10 (.bin .lss y4 y9)] (.cond y10 .skip (.exit 0))) (.seq
 (.blk 1 (qR [qO z15 (.ia 1 y3 y4),qL z16 y15,qO z17 (.bin .geq y16 (.c (.c (.i .u8 (.ofNat 65))))),qM z18 y17,qG z19 z18 (.mv y3),qG z20 z18 (.mv y4),qG z21 z18 (.ia 1 y19 y20),qG z22 z18 (.ld
 1 false y21),qG z23 z18 (.bin .leq y22 (.c (.c (.i .u8 (.ofNat 90))))),qO z24 (.pk y18 y23 qB)] (.cond y24 (.reg [qO z29 (.ia 1 y3 y4),qL z30 y29,qO z31 (.bin .add y30 (.c (.c (.i .u8 (.ofNat
 32))))),qO z32 (.ia 1 y3 y4),qE (.st 1 y32 y31)]) .skip))) (.reg [qO z12 (.bin .add y4 (qI 1)),qM z4 y12])))))) (qR [qO z34 (.b2s y3),qM z2 y34] .ret))),[(z2,none)]⟩
theorem ok46 : FnR Tryz.prog 0 46 cf46 := fnC_ok [5,7,8,11,13,14,25,26,27,28,33] Tryz.func46 (by kernel_rfl) (by kernel_rfl)
def cf48 : CF := ⟨40,2,qR [qM z4 (qS [])] (qR [qM z5 (qS [])] (.seq (qR [qM z6 (qI 0)] (.blk 0 (.loop (.seq (qR [qO z11 (.len false y0),qO z12 (.bin .lss y6 y11)] (.cond y12 .skip (.exit 0))) (.blk 1 (.seq (qR [qO
 z15 (.sx y0 y6),qO z16 (.bin .eql y15 (.c (.c (.i .u8 (.ofNat 38)))))] (.cond y16 (qR [qC z21 80 [y0,y6,y1],qO z22 (.ext 0 y21),qO z23 (.ext 1 y21),qM z7 y22,qM z8 y23] (qR [qO z26 (.bin .add
 y5 y7),qM z5 y26] (qR [qO z29 (.bin .add y6 y8),qM z6 y29] (.exit 1)))) .skip)) (qR [qO z34 (.bin .add y6 (qI 1)),qO z35 (.sls y0 (some y6) (some y34)),qO z36 (.bin .add y5 y35),qM z5 y36] (.reg
 [qO z38 (.bin .add y6 (qI 1)),qM z6 y38])))))))) (qR [qM z4 y5] .ret))),[(z4,none)]⟩
theorem ok48 : FnR Tryz.prog 0 48 cf48 := fnC_ok [9,10,13,14,17,18,19,20,24,25,27,28,30,31,32,33,37,39] Tryz.func48 (by kernel_rfl) (by kernel_rfl)
def cf49 : CF := ⟨39,2,qR [qO z4 (.new 51 (.c (.a [.i .i64 (.ofNat 0),.s [],.s [],.sl none 0 0 0,.b false]))),qM z5 (qI 0),qM z6 qB] (qR [qM z7 y1] (.seq (.blk 0 (.loop (.seq (.seq (.dreg [qM z9 y7,qM z10
 y0,qO z11 (.len false y10),qO z12 (.bin .lss y9 y11),qM z13 y12,qG z14 z13 (.mv y0),qG z15 z13 (.mv y7),qG z16 z13 (.sx y14 y15),qG z17 z13 (.bin .neq y16 (.c (.c (.i .u8 (.ofNat 60))))),qO
 z18 (.pk y13 y17 qB),qM z19 y18,qG z20 z19 (.mv y0),qG z21 z19 (.mv y7),qG z22 z19 (.sx y20 y21),qG z24 z19 (.mv y0),qG z25 z19 (.mv y1),qG z26 z19 (.sx y24 y25),qG z23 z19 (.call 79 [y22]),
 qG z27 z19 (.call 79 [y26]),qG z28 z19 (.bq false y23 y27),qO z29 (.pk y19 y28 qB)]) (.cond y29 .skip (.exit 0))) (.blk 1 (.reg [qO z31 (.bin .add y7 (qI 1)),qM z7 y31]))))) (qR [qO z35 (.sls y0
 (some y1) (some y7)),qC z36 48 [y35,qB],qO z37 (.bld [.i .i64 (.ofNat 0),.s [],.s [],.sl none 0 0 0,.b false] [(0,(1,qI 3)),(2,(1,y36))]),qE (.st 5 y4 y37),qM z5 y7,qM z6 qT] .ret))),
 [(z4,some ((5,true))),(z5,none),(z6,none)]⟩
theorem ok49 : FnR Tryz.prog 0 49 cf49 := fnC_ok [8,30,32,33,34,38] Tryz.func49 (by kernel_rfl) (by kernel_rfl)
def cf50 : CF := ⟨15,2,qR [qM z4 qB] (qR [qO z7 (.len false y0),qO z8 (.bin .lss y1 y7),qM z9 y8,qG z10 z9 (.mv y0),qG z11 z9 (.mv y1),qG z12 z9 (.sx y10 y11),qG z13 z9 (.call 81 [y12]),qO z14 (.pk y9 y13
 qB),qM z4 y14] .ret),[(z4,none)]⟩
theorem ok50 : FnR Tryz.prog 0 50 cf50 := fnC_ok [5,6] Tryz.func50 (by kernel_rfl) (by kernel_rfl)
def cf51 : CF := ⟨112,3,qR [qO z6 (.new 51 (.c (.a [.i .i64 (.ofNat 0),.s [],.s [],.sl none 0 0 0,.b false]))),qM z7 (qI 0),qM z8 qB] (qR [qC z15 82 [y0,y1,qS [47,62]],qM z9 y15] (qR [qO z20 (.sls y0
 (some y1) (some y9)),qC z21 83 [y20],qO z22 (.bld [.i .i64 (.ofNat 0),.s [],.s [],.sl none 0 0 0,.b false] [(0,(1,y2)),(1,(1,y21))]),qO z10 (.new 51 (.c (.a [.i .i64 (.ofNat 0),.s [],.s
 [],.sl none 0 0 0,.b false]))),qE (.st 5 y10 y22)] (.blk 0 (.loop (.blk 1 (.seq (.blk 2 (.loop (.seq (qR [qO z25 (.len false y0),qO z26 (.bin .lss y9 y25),qM z27 y26,qG z28 z27 (.mv y0),qG z29
 z27 (.mv y9),qG z30 z27 (.sx y28 y29),qG z31 z27 (.call 79 [y30]),qG z32 z27 (.mv y31),qH z33 z32 (.mv y0),qH z34 z32 (.mv y9),qH z35 z32 (.sx y33 y34),qH z36 z32 (.bin .eql y35 (.c (.c (.i
 .u8 (.ofNat 47))))),qG z37 z27 (.pk y32 qT y36),qO z38 (.pk y27 y37 qB)] (.cond y38 .skip (.exit 2))) (.blk 3 (.reg [qO z40 (.bin .add y9 (qI 1)),qM z9 y40]))))) (.seq (qR [qO z43 (.len false y0),
 qO z44 (.bin .geq y9 y43)] (.cond y44 (qR [qO z45 (.bld [.i .i64 (.ofNat 0),.s [],.s [],.sl none 0 0 0,.b false] []),qO z47 (.len false y0),qE (.st 5 y6 y45),qM z7 y47,qM z8 qB] .ret) .skip))
 (.seq (qR [qO z50 (.sx y0 y9),qO z51 (.bin .eql y50 (.c (.c (.i .u8 (.ofNat 62)))))] (.cond y51 (.seq (qR [qO z53 (.bin .eql y2 (qI 2))] (.cond y53 (.reg [qF z54 3 y10,qE (.st 1 y54 (.c (.c (.sl
 none 0 0 0))))]) .skip)) (qR [qO z55 (.ld 5 true y10),qO z57 (.bin .add y9 (qI 1)),qE (.st 5 y6 y55),qM z7 y57,qM z8 qT] .ret)) .skip)) (qR [qO z60 (.bin .add y9 (qI 1)),qC z61 82 [y0,y60,qS
 [47,62,61]],qM z11 y61] (qR [qO z65 (.sls y0 (some y9) (some y11)),qC z66 83 [y65],qO z67 (.bld [.s [],.s []] [(0,(1,y66))]),qO z12 (.new 79 (.c (.a [.s [],.s []]))),qE (.st 2 y12 y67)]
 (qR [qC z70 84 [y0,y11],qM z9 y70] (.seq (qR [qO z73 (.len false y0),qO z74 (.bin .lss y9 y73),qM z75 y74,qG z76 z75 (.mv y0),qG z77 z75 (.mv y9),qG z78 z75 (.sx y76 y77),qG z79 z75 (.bin
 .eql y78 (.c (.c (.i .u8 (.ofNat 61))))),qO z80 (.pk y75 y79 qB)] (.cond y80 (qR [qO z85 (.bin .add y9 (qI 1)),qC z86 84 [y0,y85],qC z87 85 [y0,y86],qO z88 (.ext 0 y87),qO z89 (.ext 1 y87),qF
 z90 1 y12,qE (.st 1 y90 y88),qM z9 y89] (qR [qO z93 (.len false y0),qO z94 (.bin .gtr y9 y93)] (.cond y94 (qR [qO z95 (.bld [.i .i64 (.ofNat 0),.s [],.s [],.sl none 0 0 0,.b false] []),qO z97
 (.len false y0),qE (.st 5 y6 y95),qM z7 y97,qM z8 qB] .ret) .skip))) .skip)) (qR [qF z98 3 y10,qL z99 y98,qF z100 0 y12,qL z101 y100,qC z102 86 [y99,y101],qO z103 (.un .not y102)] (.cond
 y103 (.reg [qF z104 3 y10,qL z105 y104,qF z106 0 y12,qL z107 y106,qF z108 1 y12,qL z109 y108,qC z110 87 [y105,y107,y109],qF z111 3 y10,qE (.st 1 y111 y110)]) .skip)))))))))))))),[(z6,some
 ((5,true))),(z7,none),(z8,none)]⟩
theorem ok51 : FnR Tryz.prog 0 51 cf51 := fnC_ok [13,14,16,17,18,19,23,24,39,41,42,46,48,49,52,56,58,59,62,63,64,68,69,71,72,81,82,83,84,91,92,96] Tryz.func51 (by kernel_rfl) (by kernel_rfl)
def cf52 : CF := ⟨30,3,qR [qM z6 qB] (qR [qO z8 (.bin .geq y1 (qI 0)),qM z9 y8,qG z10 z9 (.mv y2),qG z11 z9 (.len false y10),qG z12 z9 (.mv y0),qG z13 z9 (.len false y12),qG z14 z9 (.mv y1),qG z15 z9 (.bin
 .sub y13 y14),qG z16 z9 (.bin .leq y11 y15),qO z17 (.pk y9 y16 qB),qM z18 y17,qG z19 z18 (.mv y0),qG z20 z18 (.mv y1),qG z21 z18 (.mv y1),qG z22 z18 (.mv y2),qG z23 z18 (.len false y22),qG
 z24 z18 (.bin .add y21 y23),qG z25 z18 (.sls y19 (some y20) (some y24)),qG z26 z18 (.call 46 [y25]),qG z27 z18 (.mv y2),qG z28 z18 (.bin .eql y26 y27),qO z29 (.pk y18 y28 qB),qM z6 y29] .ret),
 [(z6,none)]⟩
theorem ok52 : FnR Tryz.prog 0 52 cf52 := fnC_ok [7] Tryz.func52 (by kernel_rfl) (by kernel_rfl)
def cf57 : CF := ⟨19,2,qR [qM z4 (qI 0)] (.seq (qR [qO z7 (.len true y0),qM z8 (qI 0)] (.blk 0 (.loop (qR [qO z9 (.bin .lss y8 y7)] (.seq (.cond y9 .skip (.exit 0)) (.seq (.blk 1 (qR [qM z5 y8] (qR [qO z14 (.ia 2
 y0 y5),qO z15 (.ld 2 true y14),qO z16 (.callv y1 [y15])] (.cond y16 (qR [qM z4 y5] .ret) .skip)))) (.reg [qO z18 (.bin .add y8 (qI 1)),qM z8 y18]))))))) (qR [qM z4 (.c (.c (.i .i64 (.negSucc
 0))))] .ret)),[(z4,none)]⟩
theorem ok57 : FnR Tryz.prog 0 57 cf57 := fnC_ok [6,10,11,12,13,17] Tryz.func57 (by kernel_rfl) (by kernel_rfl)
def cf58 : CF := ⟨25,1,qR [qM z2 (.c (.c (.p none)))] (.seq (qR [qN z4 y0,qF z5 3 y4,qL z6 y5,qO z7 (.len true y6),qO z8 (.bin .eql y7 (qI 0))] (.cond y8 (qR [qN z10 y0,qF z11 0 y10,qL z12 y11,qM z2 y12]
 .ret) .skip)) (.seq (.dreg [qM z13 y0,qN z14 y13,qF z15 3 y14,qL z16 y15,qM z17 y0,qN z18 y17,qF z19 3 y18,qL z20 y19,qO z21 (.len true y20),qO z22 (.bin .sub y21 (qI 1)),qO z23 (.ia 1 y16
 y22),qL z24 y23,qM z2 y24]) .ret)),[(z2,none)]⟩
theorem ok58 : FnR Tryz.prog 0 58 cf58 := fnC_ok [3,9] Tryz.func58 (by kernel_rfl) (by kernel_rfl)
def cf59 : CF := ⟨13,1,qR [qM z2 qB] (.seq (qR [qM z3 y0] (.blk 0 (.seq (qR [qO z5 (.bin .eql y3 (qS [116,105,116,108,101])),qM z4 y5] (.cond y4 .skip (qR [qO z6 (.bin .eql y3 (qS [116,101,120,116,97,114,
 101,97])),qM z4 y6] (.cond y4 .skip (qR [qO z7 (.bin .eql y3 (qS [115,116,121,108,101])),qM z4 y7] (.cond y4 .skip (qR [qO z8 (.bin .eql y3 (qS [115,99,114,105,112,116])),qM z4 y8]
 (.cond y4 .skip (qR [qO z9 (.bin .eql y3 (qS [120,109,112])),qM z4 y9] (.cond y4 .skip (qR [qO z10 (.bin .eql y3 (qS [105,102,114,97,109,101])),qM z4 y10] (.cond y4 .skip (qR [qO z11 (.bin
 .eql y3 (qS [110,111,101,109,98,101,100])),qM z4 y11] (.cond y4 .skip (.reg [qO z12 (.bin .eql y3 (qS [110,111,102,114,97,109,101,115])),qM z4 y12]))))))))))))))) (.cond y4 (qR [qM z2
 qT] .ret) .skip)))) (qR [qM z2 qB] .ret)),[(z2,none)]⟩
theorem ok59 : FnR Tryz.prog 0 59 cf59 := fnC_ok [] Tryz.func59 (by kernel_rfl) (by kernel_rfl)
def cf60 : CF := ⟨56,2,qR [qC z8 90 [y0],qO z9 (.ext 0 y8),qO z10 (.ext 1 y8),qM z4 y9,qM z5 y10] (.blk 0 (qR [qN z20 y0,qF z21 0 y20,qL z22 y21,qO z23 (.pq false y4 y22),qM z17 y23] (.cond y17 .skip (qR
 [qO z26 (.bin .gtr y5 (qI 0)),qM z27 y26,qG z28 z27 (.mv y4),qG z29 z27 (.nc y28),qG z30 z27 (.fa 6 y29),qG z31 z27 (.ld 1 false y30),qG z32 z27 (.mv y5),qG z33 z27 (.bin .sub y32 (qI 1)),qG
 z34 z27 (.ia 1 y31 y33),qG z35 z27 (.ld 1 false y34),qG z36 z27 (.nc y35),qG z37 z27 (.fa 1 y36),qG z38 z27 (.ld 1 false y37),qG z39 z27 (.bin .eql y38 (qI 3)),qO z40 (.pk y27 y39 qB),qM z24
 y40] (.cond y24 (.reg [qN z42 y4,qF z43 6 y42,qL z44 y43,qO z46 (.bin .sub y5 (qI 1)),qO z47 (.ia 1 y44 y46),qL z48 y47,qN z49 y48,qF z50 3 y49,qL z51 y50,qO z53 (.bin .add y51 y1),qN z54
 y48,qF z55 3 y54,qE (.st 1 y55 y53)]) (.reg [qC z14 92 [y0,qI 3,qS [],y1,.c (.c (.sl none 0 0 0))],qC z16 91 [y4,y14,y5]])))))),[]⟩
theorem ok60 : FnR Tryz.prog 0 60 cf60 := fnC_ok [6,7,11,12,13,15,18,19,25,41,45,52] Tryz.func60 (by kernel_rfl) (by kernel_rfl)
def cf61 : CF := ⟨14,2,qR [qO z2 (.new 51 y0),qM z4 qB] (qR [qF z5 0 y2,qL z6 y5,qO z7 (.bin .eql y6 (qI 2)),qM z8 y7,qG z9 z8 (.fa 1 y2),qG z10 z8 (.ld 1 false y9),qG z11 z8 (.mv y1),qG z12 z8 (.call 33
 [y10,y11]),qO z13 (.pk y8 y12 qB),qM z4 y13] .ret),[(z4,none)]⟩
theorem ok61 : FnR Tryz.prog 0 61 cf61 := fnC_ok [] Tryz.func61 (by kernel_rfl) (by kernel_rfl)
def cf62 : CF := ⟨20,2,.dreg [qM z4 y0,qM z5 y0,qN z6 y5,qF z7 3 y6,qL z8 y7,qM z9 y0,qN z10 y9,qF z11 3 y10,qL z12 y11,qO z13 (.len true y12),qM z14 y1,qO z15 (.bin .sub y13 y14),qO z16 (.mx (qI 0)
 y15),qO z17 (.slc 1 y8 none (some y16) none),qN z18 y4,qF z19 3 y18,qE (.st 1 y19 y17)],[]⟩
theorem ok62 : FnR Tryz.prog 0 62 cf62 := fnC_ok [] Tryz.func62 (by kernel_rfl) (by kernel_rfl)
def cf63 : CF := ⟨34,2,qR [qO z3 (.new 51 y1),qM z4 qB] (.seq (.blk 0 (qR [qF z9 0 y3,qL z10 y9,qO z11 (.bin .eql y10 (qI 4)),qM z8 y11] (.cond y8 (.reg [qF z14 2 y3,qL z15 y14,qC z16 92 [y0,qI 4,qS [],
 y15,.c (.c (.sl none 0 0 0))],qC z17 93 [y0,y16]]) (qR [qF z19 0 y3,qL z20 y19,qO z21 (.bin .eql y20 (qI 5)),qM z18 y21] (.cond y18 (qR [qF z24 1 y3,qL z25 y24,qC z26 92 [y0,qI 5,y25,qS
 [],.c (.c (.sl none 0 0 0))],qC z27 93 [y0,y26]] (.reg [qN z29 y0,qF z30 5 y29,qE (.st 1 y30 (qI 1))])) (qR [qO z32 (.ld 5 true y3),qC z33 94 [y32],qM z31 y33] (.cond y31 .skip (qR [qN z6 y0,
 qF z7 5 y6,qE (.st 1 y7 (qI 1))] (qR [qM z4 qT] .ret))))))))) (qR [qM z4 qB] .ret)),[(z4,none)]⟩
theorem ok63 : FnR Tryz.prog 0 63 cf63 := fnC_ok [5,12,13,22,23,28] Tryz.func63 (by kernel_rfl) (by kernel_rfl)
def cf64 : CF := ⟨50,2,qR [qO z3 (.new 51 y1),qM z4 qB] (.seq (.blk 0 (qR [qF z11 0 y3,qL z12 y11,qO z13 (.bin .eql y12 (qI 4)),qM z10 y13] (.cond y10 (.reg [qF z16 2 y3,qL z17 y16,qC z18 92 [y0,qI 4,qS [],
 y17,.c (.c (.sl none 0 0 0))],qC z19 93 [y0,y18]]) (qR [qF z21 0 y3,qL z22 y21,qO z23 (.bin .eql y22 (qI 5)),qM z24 y23,qH z25 z24 (.ld 5 true y3),qH z26 z24 (.call 94 [y25]),qO z27 (.pk y24
 qT y26),qM z20 y27] (.cond y20 .skip (qR [qO z29 (.ld 5 true y3),qO z30 (.bsl 9 1 1 [.s []] [(0,(1,qS [104,116,109,108]))]),qC z31 95 [y29,y30],qM z28 y31] (.cond y28 (qR [qF z33 3 y3,qL
 z34 y33,qC z35 96 [y0,qS [104,116,109,108],y34]] (.reg [qN z37 y0,qF z38 5 y37,qE (.st 1 y38 (qI 2))])) (qR [qF z40 0 y3,qL z41 y40,qO z42 (.bin .eql y41 (qI 2)),qM z43 y42,qG z44 z43
 (.fa 1 y3),qG z45 z43 (.ld 1 false y44),qG z46 z43 (.bsl 9 1 4 [.s [],.s [],.s [],.s []] [(0,(1,qS [104,101,97,100])),(1,(1,qS [98,111,100,121])),(2,(1,qS [104,116,109,108])),
 (3,(1,qS [98,114]))]),qG z47 z43 (.call 33 [y45,y46]),qG z48 z43 (.un .not y47),qO z49 (.pk y43 y48 qB),qM z39 y49] (.cond y39 .skip (qR [qC z6 96 [y0,qS [104,116,109,108],.c (.c (.sl
 none 0 0 0))]] (qR [qN z8 y0,qF z9 5 y8,qE (.st 1 y9 (qI 2))] (qR [qM z4 qT] .ret)))))))))))) (qR [qM z4 qB] .ret)),[(z4,none)]⟩
theorem ok64 : FnR Tryz.prog 0 64 cf64 := fnC_ok [5,7,14,15,32,36] Tryz.func64 (by kernel_rfl) (by kernel_rfl)
def cf65 : CF := ⟨60,2,qR [qO z3 (.new 51 y1),qM z4 qB] (.seq (.blk 0 (qR [qF z14 0 y3,qL z15 y14,qO z16 (.bin .eql y15 (qI 4)),qM z13 y16] (.cond y13 (.reg [qO z18 (.ld 5 true y3),qC z19 97 [y0,y18]]) (qR
 [qF z21 0 y3,qL z22 y21,qO z23 (.bin .eql y22 (qI 5)),qM z24 y23,qH z25 z24 (.ld 5 true y3),qH z26 z24 (.call 94 [y25]),qO z27 (.pk y24 qT y26),qM z20 y27] (.cond y20 .skip (qR [qO z29 (.ld 5
 true y3),qO z30 (.bsl 9 1 1 [.s []] [(0,(1,qS [104,116,109,108]))]),qC z31 95 [y29,y30],qM z28 y31] (.cond y28 (qR [qO z33 (.ld 5 true y3),qC z34 75 [y0,y33],qM z4 y34] .ret) (qR [qO z36
 (.ld 5 true y3),qO z37 (.bsl 9 1 1 [.s []] [(0,(1,qS [104,101,97,100]))]),qC z38 95 [y36,y37],qM z35 y38] (.cond y35 (qR [qF z41 3 y3,qL z42 y41,qC z43 96 [y0,qS [104,101,97,100],
 y42],qN z44 y0,qF z45 1 y44,qE (.st 1 y45 y43)] (.reg [qN z47 y0,qF z48 5 y47,qE (.st 1 y48 (qI 3))])) (qR [qF z50 0 y3,qL z51 y50,qO z52 (.bin .eql y51 (qI 2)),qM z53 y52,qG z54 z53 (.fa 1
 y3),qG z55 z53 (.ld 1 false y54),qG z56 z53 (.bsl 9 1 4 [.s [],.s [],.s [],.s []] [(0,(1,qS [104,101,97,100])),(1,(1,qS [98,111,100,121])),(2,(1,qS [104,116,109,108])),(3,(1,
 qS [98,114]))]),qG z57 z53 (.call 33 [y55,y56]),qG z58 z53 (.un .not y57),qO z59 (.pk y53 y58 qB),qM z49 y59] (.cond y49 .skip (qR [qC z7 96 [y0,qS [104,101,97,100],.c (.c (.sl none 0 0
 0))],qN z8 y0,qF z9 1 y8,qE (.st 1 y9 y7)] (qR [qN z11 y0,qF z12 5 y11,qE (.st 1 y12 (qI 3))] (qR [qM z4 qT] .ret)))))))))))))) (qR [qM z4 qB] .ret)),[(z4,none)]⟩
theorem ok65 : FnR Tryz.prog 0 65 cf65 := fnC_ok [5,6,10,17,32,39,40,46] Tryz.func65 (by kernel_rfl) (by kernel_rfl)
def cf66 : CF := ⟨81,2,qR [qO z3 (.new 51 y1),qM z4 qB] (.seq (.blk 0 (qR [qO z12 (.ld 5 true y3),qC z13 94 [y12],qM z11 y13] (.cond y11 (.reg [qF z15 2 y3,qL z16 y15,qC z17 60 [y0,y16]]) (qR [qF z19 0 y3,qL
 z20 y19,qO z21 (.bin .eql y20 (qI 4)),qM z18 y21] (.cond y18 (.reg [qO z23 (.ld 5 true y3),qC z24 97 [y0,y23]]) (qR [qF z26 0 y3,qL z27 y26,qO z28 (.bin .eql y27 (qI 5)),qM z29 y28,qH z30 z29
 (.ld 5 true y3),qH z31 z29 (.bsl 9 1 1 [.s []] [(0,(1,qS [104,101,97,100]))]),qH z32 z29 (.call 95 [y30,y31]),qO z33 (.pk y29 qT y32),qM z25 y33] (.cond y25 .skip (qR [qO z35 (.ld 5 true
 y3),qO z36 (.bsl 9 1 1 [.s []] [(0,(1,qS [104,116,109,108]))]),qC z37 95 [y35,y36],qM z34 y37] (.cond y34 (qR [qO z39 (.ld 5 true y3),qC z40 75 [y0,y39],qM z4 y40] .ret) (qR [qO z42 (.ld
 5 true y3),qO z43 (.bsl 9 1 3 [.s [],.s [],.s []] [(0,(1,qS [98,97,115,101])),(1,(1,qS [108,105,110,107])),(2,(1,qS [109,101,116,97]))]),qC z44 95 [y42,y43],qM z41 y44] (.cond
 y41 (.reg [qF z46 1 y3,qL z47 y46,qF z48 3 y3,qL z49 y48,qC z50 98 [y0,y47,y49]]) (qR [qO z52 (.ld 5 true y3),qO z53 (.bsl 9 1 4 [.s [],.s [],.s [],.s []] [(0,(1,qS [116,105,116,108,
 101])),(1,(1,qS [115,116,121,108,101])),(2,(1,qS [115,99,114,105,112,116])),(3,(1,qS [110,111,102,114,97,109,101,115]))]),qC z54 95 [y52,y53],qM z51 y54] (.cond y51 (.reg
 [qF z56 1 y3,qL z57 y56,qF z58 3 y3,qL z59 y58,qC z60 96 [y0,y57,y59]]) (qR [qO z62 (.ld 5 true y3),qO z63 (.bsl 9 1 1 [.s []] [(0,(1,qS [104,101,97,100]))]),qC z64 61 [y62,y63],qM z61
 y64] (.cond y61 (qR [qC z66 62 [y0,qI 1]] (.reg [qN z68 y0,qF z69 5 y68,qE (.st 1 y69 (qI 4))])) (qR [qF z71 0 y3,qL z72 y71,qO z73 (.bin .eql y72 (qI 2)),qM z74 y73,qG z75 z74 (.fa 1 y3),qG
 z76 z74 (.ld 1 false y75),qG z77 z74 (.bsl 9 1 3 [.s [],.s [],.s []] [(0,(1,qS [98,111,100,121])),(1,(1,qS [104,116,109,108])),(2,(1,qS [98,114]))]),qG z78 z74 (.call 33 [y76,
 y77]),qG z79 z74 (.un .not y78),qO z80 (.pk y74 y79 qB),qM z70 y80] (.cond y70 .skip (qR [qO z6 (.bsl 9 1 1 [.s []] [(0,(1,qS [104,101,97,100]))]),qC z7 99 [y0,y6]] (qR [qN z9 y0,qF z10 5
 y9,qE (.st 1 y10 (qI 4))] (qR [qM z4 qT] .ret)))))))))))))))))))) (qR [qM z4 qB] .ret)),[(z4,none)]⟩
theorem ok66 : FnR Tryz.prog 0 66 cf66 := fnC_ok [5,8,14,22,38,45,55,65,67] Tryz.func66 (by kernel_rfl) (by kernel_rfl)
def cf67 : CF := ⟨119,2,qR [qO z3 (.new 51 y1),qM z4 qB] (.seq (.blk 0 (qR [qO z13 (.ld 5 true y3),qC z14 94 [y13],qM z12 y14] (.cond y12 (.reg [qF z16 2 y3,qL z17 y16,qC z18 60 [y0,y17]]) (qR [qF z20 0 y3,
 qL z21 y20,qO z22 (.bin .eql y21 (qI 4)),qM z19 y22] (.cond y19 (.reg [qO z24 (.ld 5 true y3),qC z25 97 [y0,y24]]) (qR [qF z27 0 y3,qL z28 y27,qO z29 (.bin .eql y28 (qI 5)),qM z30 y29,qH z31
 z30 (.ld 5 true y3),qH z32 z30 (.bsl 9 1 1 [.s []] [(0,(1,qS [104,101,97,100]))]),qH z33 z30 (.call 95 [y31,y32]),qO z34 (.pk y30 qT y33),qM z26 y34] (.cond y26 .skip (qR [qO z36 (.ld 5
 true y3),qO z37 (.bsl 9 1 1 [.s []] [(0,(1,qS [104,116,109,108]))]),qC z38 95 [y36,y37],qM z35 y38] (.cond y35 (qR [qO z40 (.ld 5 true y3),qC z41 75 [y0,y40],qM z4 y41] .ret) (qR [qO z43
 (.ld 5 true y3),qO z44 (.bsl 9 1 1 [.s []] [(0,(1,qS [98,111,100,121]))]),qC z45 95 [y43,y44],qM z42 y45] (.cond y42 (qR [qF z47 3 y3,qL z48 y47,qC z49 96 [y0,qS [98,111,100,121],
 y48]] (.reg [qN z51 y0,qF z52 5 y51,qE (.st 1 y52 (qI 5))])) (qR [qF z54 0 y3,qL z55 y54,qO z56 (.bin .eql y55 (qI 1)),qM z57 y56,qG z58 z57 (.fa 1 y3),qG z59 z57 (.ld 1 false y58),qG z60 z57
 (.call 100 [y59,qI 8]),qO z61 (.pk y57 y60 qB),qM z53 y61] (.cond y53 (.seq (.dreg [qM z62 y0,qM z63 y0,qN z64 y63,qF z65 3 y64,qL z66 y65,qM z67 y0,qN z68 y67,qF z69 1 y68,qL z70 y69,qO
 z71 (.bsl 53 1 1 [.p none] [(0,(1,y70))]),qO z72 (.app 53 1 false y66 y71),qN z73 y62,qF z74 3 y73,qE (.st 1 y74 y72)]) (qR [qO z76 (.ld 5 true y3),qC z77 66 [y0,y76],qM z5 y77] (.seq (qR
 [qN z80 y0,qF z81 1 y80,qL z82 y81,qN z83 y82,qF z84 0 y83,qL z85 y84,qC z86 101 [y0,y85],qM z6 y86] (qR [qO z88 (.bin .geq y6 (qI 0))] (.cond y88 (.dreg [qM z89 y0,qM z90 y0,qN z91 y90,qF
 z92 3 y91,qL z93 y92,qM z94 y6,qM z95 y6,qO z96 (.slc 1 y93 none (some y94) (some y95)),qM z97 y0,qN z98 y97,qF z99 3 y98,qL z100 y99,qM z101 y6,qO z102 (.bin .add y101 (qI 1)),qO z103
 (.slc 1 y100 (some y102) none none),qO z104 (.app 53 1 false y96 y103),qN z105 y89,qF z106 3 y105,qE (.st 1 y106 y104)]) .skip))) (qR [qM z4 y5] .ret)))) (qR [qF z109 0 y3,qL z110 y109,qO z111
 (.bin .eql y110 (qI 2)),qM z112 y111,qG z113 z112 (.fa 1 y3),qG z114 z112 (.ld 1 false y113),qG z115 z112 (.bsl 9 1 3 [.s [],.s [],.s []] [(0,(1,qS [98,111,100,121])),(1,(1,qS [104,
 116,109,108])),(2,(1,qS [98,114]))]),qG z116 z112 (.call 33 [y114,y115]),qG z117 z112 (.un .not y116),qO z118 (.pk y112 y117 qB),qM z108 y118] (.cond y108 .skip (qR [qC z8 96 [y0,qS [98,
 111,100,121],.c (.c (.sl none 0 0 0))]] (qR [qN z10 y0,qF z11 5 y10,qE (.st 1 y11 (qI 5))] (qR [qM z4 qT] .ret)))))))))))))))))) (qR [qM z4 qB] .ret)),[(z4,none)]⟩
theorem ok67 : FnR Tryz.prog 0 67 cf67 := fnC_ok [7,9,15,23,39,46,50,75,78,79,87,107] Tryz.func67 (by kernel_rfl) (by kernel_rfl)
def cf75 : CF := ⟨30,2,qR [qO z3 (.new 51 y1),qM z4 qB] (.seq (qR [qF z5 0 y3,qL z6 y5] (.blk 0 (qR [qO z8 (.bin .eql y6 (qI 3)),qM z7 y8] (.cond y7 (qR [qC z10 114 [y0]] (.reg [qF z12 2 y3,qL z13 y12,qC z14
 60 [y0,y13]])) (qR [qO z16 (.bin .eql y6 (qI 4)),qM z15 y16] (.cond y15 (.reg [qO z18 (.ld 5 true y3),qC z19 97 [y0,y18]]) (qR [qO z21 (.bin .eql y6 (qI 1)),qM z20 y21] (.cond y20 (qR [qO z23
 (.ld 5 true y3),qC z24 115 [y0,y23],qM z4 y24] .ret) (qR [qO z26 (.bin .eql y6 (qI 2)),qM z25 y26] (.cond y25 (qR [qO z28 (.ld 5 true y3),qC z29 116 [y0,y28],qM z4 y29] .ret) .skip))))))))))
 (qR [qM z4 qB] .ret)),[(z4,none)]⟩
theorem ok75 : FnR Tryz.prog 0 75 cf75 := fnC_ok [9,11,17,22,27] Tryz.func75 (by kernel_rfl) (by kernel_rfl)
def cf76 : CF := ⟨73,1,qR [qO z1 (.new 28 y0),qM z2 qB] (.seq (qR [qF z3 0 y1,qL z4 y3,qO z5 (.bin .eql y4 (qI 2))] (.cond y5 (qR [qF z6 1 y1,qL z7 y6,qC z8 31 [y7],qM z9 y8,qG z10 z9 (.fa 2 y1),qG z11 z9
 (.ld 1 false y10),qG z12 z9 (.bin .eql y11 (qS [])),qO z13 (.pk y9 y12 qB),qM z14 y13,qG z15 z14 (.fa 3 y1),qG z16 z14 (.ld 1 false y15),qG z17 z14 (.call 117 [y16]),qO z18 (.pk y14 y17 qB),
 qM z19 y18,qG z20 z19 (.ld 5 true y1),qG z21 z19 (.call 41 [y20]),qO z22 (.pk y19 y21 qB),qM z2 y22] .ret) .skip)) (.seq (qR [qF z23 3 y1,qL z24 y23,qO z25 (.len true y24),qO z26 (.bin .gtr
 y25 (qI 0)),qM z27 y26,qH z28 z27 (.fa 4 y1),qH z29 z27 (.ld 1 false y28),qH z30 z27 (.len true y29),qH z31 z27 (.bin .gtr y30 (qI 0)),qO z32 (.pk y27 qT y31)] (.cond y32 (qR [qM z2 qB] .ret)
 .skip)) (.seq (qR [qF z33 0 y1,qL z34 y33] (.blk 0 (qR [qO z36 (.bin .eql y34 (qI 3)),qM z35 y36] (.cond y35 (qR [qF z37 1 y1,qL z38 y37,qO z39 (.bin .eql y38 (qS [])),qM z40 y39,qG z41 z40
 (.fa 2 y1),qG z42 z40 (.ld 1 false y41),qG z43 z40 (.bin .neq y42 (qS [])),qO z44 (.pk y40 y43 qB),qM z45 y44,qG z46 z45 (.fa 2 y1),qG z47 z45 (.ld 1 false y46),qG z48 z45 (.len false y47),qG
 z49 z45 (.bin .leq y48 (qI 4096)),qO z50 (.pk y45 y49 qB),qM z2 y50] .ret) (qR [qO z52 (.bin .eql y34 (qI 4)),qM z51 y52] (.cond y51 (qR [qF z53 1 y1,qL z54 y53,qO z55 (.bin .eql y54 (qS [])),
 qM z56 y55,qG z57 z56 (.fa 2 y1),qG z58 z56 (.ld 1 false y57),qG z59 z56 (.len false y58),qG z60 z56 (.bin .leq y59 (qI 4096)),qO z61 (.pk y56 y60 qB),qM z2 y61] .ret) (qR [qO z63 (.bin .eql
 y34 (qI 5)),qM z62 y63] (.cond y62 (qR [qF z64 2 y1,qL z65 y64,qO z66 (.bin .eql y65 (qS [])),qM z67 y66,qG z68 z67 (.fa 1 y1),qG z69 z67 (.ld 1 false y68),qG z70 z67 (.len false y69),qG z71
 z67 (.bin .leq y70 (qI 32)),qO z72 (.pk y67 y71 qB),qM z2 y72] .ret) .skip)))))))) (qR [qM z2 qB] .ret)))),[(z2,none)]⟩
theorem ok76 : FnR Tryz.prog 0 76 cf76 := fnC_ok [] Tryz.func76 (by kernel_rfl) (by kernel_rfl)
def cf79 : CF := ⟨17,1,qR [qM z2 qB] (qR [qO z4 (.bin .eql y0 (.c (.c (.i .u8 (.ofNat 9))))),qM z5 y4,qH z6 z5 (.mv y0),qH z7 z5 (.bin .eql y6 (.c (.c (.i .u8 (.ofNat 10))))),qO z8 (.pk y5 qT y7),qM z9 y8,qH
 z10 z9 (.mv y0),qH z11 z9 (.bin .eql y10 (.c (.c (.i .u8 (.ofNat 12))))),qO z12 (.pk y9 qT y11),qM z13 y12,qH z14 z13 (.mv y0),qH z15 z13 (.bin .eql y14 (.c (.c (.i .u8 (.ofNat 32))))),qO z16
 (.pk y13 qT y15),qM z2 y16] .ret),[(z2,none)]⟩
theorem ok79 : FnR Tryz.prog 0 79 cf79 := fnC_ok [3] Tryz.func79 (by kernel_rfl) (by kernel_rfl)
def cf81 : CF := ⟨17,1,qR [qM z2 qB] (qR [qO z4 (.bin .geq y0 (.c (.c (.i .u8 (.ofNat 97))))),qM z5 y4,qG z6 z5 (.mv y0),qG z7 z5 (.bin .leq y6 (.c (.c (.i .u8 (.ofNat 122))))),qO z8 (.pk y5 y7 qB),qM z9 y8,
 qH z10 z9 (.mv y0),qH z11 z9 (.bin .geq y10 (.c (.c (.i .u8 (.ofNat 65))))),qH z12 z9 (.mv y11),qG z13 z12 (.mv y0),qG z14 z12 (.bin .leq y13 (.c (.c (.i .u8 (.ofNat 90))))),qH z15 z9 (.pk y12
 y14 qB),qO z16 (.pk y9 qT y15),qM z2 y16] .ret),[(z2,none)]⟩
theorem ok81 : FnR Tryz.prog 0 81 cf81 := fnC_ok [3] Tryz.func81 (by kernel_rfl) (by kernel_rfl)
def cf82 : CF := ⟨36,3,qR [qM z6 (qI 0)] (.seq (.blk 0 (.loop (.seq (qR [qO z10 (.len false y0),qO z11 (.bin .lss y1 y10),qM z12 y11,qG z13 z12 (.mv y0),qG z14 z12 (.mv y1),qG z15 z12 (.sx y13 y14),qG z16 z12
 (.call 79 [y15]),qG z17 z12 (.un .not y16),qO z18 (.pk y12 y17 qB)] (.cond y18 .skip (.exit 0))) (.blk 1 (.seq (qR [qM z7 (qI 0)] (.blk 2 (.loop (.seq (qR [qO z21 (.len false y2),qO z22 (.bin .lss
 y7 y21)] (.cond y22 .skip (.exit 2))) (.seq (.blk 3 (.seq (.dreg [qM z25 y0,qM z26 y1,qO z27 (.sx y25 y26),qM z28 y2,qM z29 y7,qO z30 (.sx y28 y29),qO z31 (.bin .eql y27 y30)]) (.cond y31 (qR
 [qM z6 y1] .ret) .skip))) (.reg [qO z24 (.bin .add y7 (qI 1)),qM z7 y24])))))) (.reg [qO z34 (.bin .add y1 (qI 1)),qM z1 y34])))))) (qR [qM z6 y1] .ret)),[(z6,none)]⟩
theorem ok82 : FnR Tryz.prog 0 82 cf82 := fnC_ok [8,9,19,20,23,32,33,35] Tryz.func82 (by kernel_rfl) (by kernel_rfl)
def cf83 : CF := ⟨45,1,qR [qM z2 (qS [])] (qR [qC z6 46 [y0],qO z7 (.s2b 5 y6),qM z3 y7] (.seq (qR [qM z4 (qI 0)] (.blk 0 (.loop (.seq (qR [qO z10 (.len true y3),qO z11 (.bin .lss y4 y10)] (.cond y11 .skip
 (.exit 0))) (.seq (.blk 1 (qR [qO z16 (.ia 1 y3 y4),qL z17 y16,qO z18 (.bin .eql y17 (.c (.c (.i .u8 (.ofNat 34))))),qM z19 y18,qH z20 z19 (.mv y3),qH z21 z19 (.mv y4),qH z22 z19 (.ia 1 y20
 y21),qH z23 z19 (.ld 1 false y22),qH z24 z19 (.bin .eql y23 (.c (.c (.i .u8 (.ofNat 39))))),qO z25 (.pk y19 qT y24),qM z26 y25,qH z27 z26 (.mv y3),qH z28 z26 (.mv y4),qH z29 z26 (.ia 1 y27
 y28),qH z30 z26 (.ld 1 false y29),qH z31 z26 (.bin .eql y30 (.c (.c (.i .u8 (.ofNat 60))))),qO z32 (.pk y26 qT y31),qM z33 y32,qH z34 z33 (.mv y3),qH z35 z33 (.mv y4),qH z36 z33 (.ia 1 y34
 y35),qH z37 z33 (.ld 1 false y36),qH z38 z33 (.bin .eql y37 (.c (.c (.i .u8 (.ofNat 61))))),qO z39 (.pk y33 qT y38)] (.cond y39 (.reg [qO z42 (.ia 1 y3 y4),qE (.st 1 y42 (.c (.c (.i .u8 (.ofNat
 95)))))]) .skip))) (.reg [qO z13 (.bin .add y4 (qI 1)),qM z4 y13])))))) (qR [qO z44 (.b2s y3),qM z2 y44] .ret))),[(z2,none)]⟩
theorem ok83 : FnR Tryz.prog 0 83 cf83 := fnC_ok [5,8,9,12,14,15,40,41,43] Tryz.func83 (by kernel_rfl) (by kernel_rfl)
def cf90 : CF := ⟨28,1,qR [qM z2 (.c (.c (.p none))),qM z3 (qI 0)] (qR [qC z6 58 [y0],qM z4 y6] (.seq (qR [qN z8 y0,qF z9 6 y8,qL z10 y9,qM z11 y10,qG z12 z11 (.mv y4),qG z13 z11 (.nc y12),qG z14 z11 (.fa 2
 y13),qG z15 z11 (.ld 1 false y14),qG z16 z11 (.call 121 [y15]),qO z17 (.pk y11 y16 qB)] (.cond y17 (qR [qC z19 122 [y0],qO z20 (.ext 0 y19),qO z21 (.ext 1 y19),qM z2 y20,qM z3 y21] .ret)
 .skip)) (.seq (.dreg [qM z22 y4,qM z23 y4,qN z24 y23,qF z25 6 y24,qL z26 y25,qO z27 (.len true y26),qM z2 y22,qM z3 y27]) .ret))),[(z2,none),(z3,none)]⟩
theorem ok90 : FnR Tryz.prog 0 90 cf90 := fnC_ok [5,7,18] Tryz.func90 (by kernel_rfl) (by kernel_rfl)
def cf91 : CF := ⟨21,3,qR [qN z8 y1,qF z9 5 y8,qE (.st 1 y9 y0)] (.reg [qN z12 y0,qF z13 6 y12,qL z14 y13,qO z17 (.bsl 53 1 1 [.p none] [(0,(1,y1))]),qC z18 123 [y14,y2,y17],qN z19 y0,qF z20 6 y19,qE
 (.st 1 y20 y18)]),[]⟩
theorem ok91 : FnR Tryz.prog 0 91 cf91 := fnC_ok [6,7,10,11,15,16] Tryz.func91 (by kernel_rfl) (by kernel_rfl)
def cf92 : CF := ⟨29,5,qR [qM z10 (.c (.c (.p none)))] (qR [qN z12 y0,qF z13 2 y12,qL z14 y13,qO z15 (.bin .add y14 (qI 1)),qN z16 y0,qF z17 2 y16,qE (.st 1 y17 y15)] (.seq (.dreg [qM z18 y0,qN z19 y18,qF
 z20 2 y19,qL z21 y20,qM z22 y1,qM z23 y2,qM z24 y3,qM z25 y4,⟨some z26,none,.call 35 [y25],[⟨some z21,none,.ld 1 false y20⟩]⟩,qO z27 (.bld [.i .i64 (.ofNat 0),.i .i64 (.ofNat 0),.s [],
 .s [],.sl none 0 0 0,.p none,.sl none 0 0 0] [(0,(1,y21)),(1,(1,y22)),(2,(1,y23)),(3,(1,y24)),(4,(1,y26))]),qO z28 (.new 56 y27),qM z10 y28]) .ret)),[(z10,none)]⟩
theorem ok92 : FnR Tryz.prog 0 92 cf92 := fnC_ok [11] Tryz.func92 (by kernel_rfl) (by kernel_rfl)
def cf94 : CF := ⟨20,1,qR [qO z1 (.new 51 y0),qM z2 qB] (.seq (qR [qF z4 0 y1,qL z5 y4,qO z6 (.bin .neq y5 (qI 3))] (.cond y6 (qR [qM z2 qB] .ret) .skip)) (.seq (qR [qF z7 2 y1,qL z8 y7,qO z9 (.len false y8),
 qM z10 (qI 0)] (.blk 0 (.loop (qR [qO z11 (.bin .lss y10 y9)] (.seq (.cond y11 .skip (.exit 0)) (.seq (.blk 1 (qR [qM z3 y10] (qR [qF z13 2 y1,qL z14 y13,qO z16 (.sx y14 y3),qC z17 124 [y16],qO
 z18 (.un .not y17)] (.cond y18 (qR [qM z2 qB] .ret) .skip)))) (.reg [qO z19 (.bin .add y10 (qI 1)),qM z10 y19]))))))) (qR [qM z2 qT] .ret))),[(z2,none)]⟩
theorem ok94 : FnR Tryz.prog 0 94 cf94 := fnC_ok [12,15] Tryz.func94 (by kernel_rfl) (by kernel_rfl)
def cf95 : CF := ⟨14,2,qR [qO z2 (.new 51 y0),qM z4 qB] (qR [qF z5 0 y2,qL z6 y5,qO z7 (.bin .eql y6 (qI 1)),qM z8 y7,qG z9 z8 (.fa 1 y2),qG z10 z8 (.ld 1 false y9),qG z11 z8 (.mv y1),qG z12 z8 (.call 33
 [y10,y11]),qO z13 (.pk y8 y12 qB),qM z4 y13] .ret),[(z4,none)]⟩
theorem ok95 : FnR Tryz.prog 0 95 cf95 := fnC_ok [] Tryz.func95 (by kernel_rfl) (by kernel_rfl)
def cf96 : CF := ⟨23,3,qR [qM z6 (.c (.c (.p none)))] (qR [qC z11 98 [y0,y1,y2],qM z7 y11] (qR [qN z14 y0,qF z15 3 y14,qL z16 y15,qO z18 (.bsl 53 1 1 [.p none] [(0,(1,y7))]),qO z19 (.app 53 1 false y16
 y18),qN z20 y0,qF z21 3 y20,qE (.st 1 y21 y19)] (qR [qM z6 y7] .ret))),[(z6,none)]⟩
theorem ok96 : FnR Tryz.prog 0 96 cf96 := fnC_ok [8,9,10,12,13,17,22] Tryz.func96 (by kernel_rfl) (by kernel_rfl)
def cf98 : CF := ⟨16,3,qR [qM z6 (.c (.c (.p none)))] (qR [qC z11 92 [y0,qI 2,y1,qS [],y2],qM z7 y11] (qR [qC z14 125 [y0,y7]] (qR [qM z6 y7] .ret))),[(z6,none)]⟩
theorem ok98 : FnR Tryz.prog 0 98 cf98 := fnC_ok [8,9,10,12,13,15] Tryz.func98 (by kernel_rfl) (by kernel_rfl)
def cf99 : CF := ⟨10,2,.reg [qC z6 127 [y0],qC z8 126 [y6,y1],qC z9 62 [y0,y8]],[]⟩
theorem ok99 : FnR Tryz.prog 0 99 cf99 := fnC_ok [4,5,7] Tryz.func99 (by kernel_rfl) (by kernel_rfl)
def cf100 : CF := ⟨9,2,qR [qM z4 qB] (qR [qC z6 129 [y1],qC z8 128 [y6,y0],qM z4 y8] .ret),[(z4,none)]⟩
theorem ok100 : FnR Tryz.prog 0 100 cf100 := fnC_ok [5,7] Tryz.func100 (by kernel_rfl) (by kernel_rfl)
def cf101 : CF := ⟨11,2,qR [qO z3 (.new 3 y1),qM z4 (qI 0)] (qR [qN z6 y0,qF z7 3 y6,qL z8 y7,qO z9 (.mkf 131 [y3]),qC z10 130 [y8,y9],qM z4 y10] .ret),[(z4,none)]⟩
theorem ok101 : FnR Tryz.prog 0 101 cf101 := fnC_ok [5] Tryz.func101 (by kernel_rfl) (by kernel_rfl)
def cf106 : CF := ⟨12,3,qR [qM z6 qB] (qR [qC z8 127 [y0],qC z11 132 [y8,y1,y2],qM z6 y11] .ret),[(z6,none)]⟩
theorem ok106 : FnR Tryz.prog 0 106 cf106 := fnC_ok [7,9,10] Tryz.func106 (by kernel_rfl) (by kernel_rfl)
def cf109 : CF := ⟨10,2,.reg [qC z6 127 [y0],qC z8 134 [y6,y1],qC z9 62 [y0,y8]],[]⟩
theorem ok109 : FnR Tryz.prog 0 109 cf109 := fnC_ok [4,5,7] Tryz.func109 (by kernel_rfl) (by kernel_rfl)
def cf114 : CF := ⟨53,1,qR [qN z6 y0,qF z7 4 y6,qL z8 y7,qC z9 136 [y8],qM z2 y9] (.seq (.blk 0 (.loop (.seq (qR [qO z11 (.bin .gtr y2 (qI 0)),qM z12 y11,qG z13 z12 (.mv y0),qG z14 z12 (.mv y2),qG z15 z12
 (.bin .sub y14 (qI 1)),qG z16 z12 (.call 137 [y13,y15]),qG z17 z12 (.un .not y16),qO z18 (.pk y12 y17 qB)] (.cond y18 .skip (.exit 0))) (.blk 1 (.reg [qO z20 (.bin .sub y2 (qI 1)),qM z2
 y20]))))) (.blk 2 (.loop (.seq (qR [qN z23 y0,qF z24 4 y23,qL z25 y24,qC z26 136 [y25],qO z27 (.bin .lss y2 y26)] (.cond y27 .skip (.exit 2))) (.seq (.blk 3 (qR [qN z32 y0,qF z33 4 y32,qL z34
 y33,qC z36 138 [y34,y2],qO z37 (.ext 0 y36),qO z38 (.ext 1 y36),qO z3 (.new 123 (.c (.a [.i .i64 (.ofNat 0),.s [],.sl none 0 0 0]))),qE (.st 3 y3 y37)] (.dreg [qM z39 y0,qN z40 y39,qF z41 4
 y40,qL z42 y41,qF z43 0 y3,qL z44 y43,qM z45 y0,qF z46 1 y3,qL z47 y46,qF z48 2 y3,qL z49 y48,⟨some z50,none,.call 96 [y45,y47,y49],[⟨some z42,none,.ld 1 false y41⟩,⟨some z44,none,
 .ld 1 false y43⟩]⟩,⟨some z51,none,.call 140 [y50],[⟨some z42,none,.ld 1 false y41⟩,⟨some z44,none,.ld 1 false y43⟩]⟩,qC z52 139 [y42,y44,y51]]))) (.reg [qO z29 (.bin .add y2 (qI 1)),qM
 z2 y29])))))),[]⟩
theorem ok114 : FnR Tryz.prog 0 114 cf114 := fnC_ok [4,5,10,19,21,22,28,30,31,35] Tryz.func114 (by kernel_rfl) (by kernel_rfl)
def cf115 : CF := ⟨186,2,qR [qO z3 (.new 51 y1),qM z4 qB] (qR [qF z6 1 y3,qL z7 y6,qM z5 y7] (.seq (.blk 0 (qR [qO z13 (.bin .eql y5 (qS [104,116,109,108])),qM z11 y13] (.cond y11 (.seq (qR [qN z15 y0,qF z16
 3 y15,qL z17 y16,qO z18 (.len true y17),qO z19 (.bin .gtr y18 (qI 0))] (.cond y19 (.dreg [qM z20 y0,qN z21 y20,qF z22 3 y21,qL z23 y22,qO z24 (.ia 1 y23 (qI 0)),qL z25 y24,qF z26 3 y3,qL
 z27 y26,qC z28 141 [y25,y27]]) .skip)) (qR [qM z4 qB] .ret)) (qR [qO z31 (.bin .eql y5 (qS [98,111,100,121])),qM z29 y31] (.cond y29 (.seq (qR [qN z33 y0,qF z34 3 y33,qL z35 y34,qO z36 (.len
 true y35),qO z37 (.bin .gtr y36 (qI 1)),qM z38 y37,qG z39 z38 (.mv y0),qG z40 z38 (.nc y39),qG z41 z38 (.fa 3 y40),qG z42 z38 (.ld 1 false y41),qG z43 z38 (.ia 1 y42 (qI 1)),qG z44 z38 (.ld 1
 false y43),qG z45 z38 (.nc y44),qG z46 z38 (.fa 2 y45),qG z47 z38 (.ld 1 false y46),qG z48 z38 (.bin .eql y47 (qS [98,111,100,121])),qO z49 (.pk y38 y48 qB)] (.cond y49 (.dreg [qM z50 y0,qN
 z51 y50,qF z52 3 y51,qL z53 y52,qO z54 (.ia 1 y53 (qI 1)),qL z55 y54,qF z56 3 y3,qL z57 y56,qC z58 141 [y55,y57]]) .skip)) (qR [qM z4 qB] .ret)) (qR [qC z61 100 [y5,qI 8],qM z59 y61] (.cond
 y59 (qR [qO z63 (.ld 5 true y3),qC z64 66 [y0,y63],qM z4 y64] .ret) (qR [qO z67 (.bsl 9 1 12 [.s [],.s [],.s [],.s [],.s [],.s [],.s [],.s [],.s [],.s [],.s [],.s []] [(0,(1,qS [102,
 114,97,109,101,115,101,116])),(1,(1,qS [99,97,112,116,105,111,110])),(2,(1,qS [99,111,108])),(3,(1,qS [99,111,108,103,114,111,117,112])),(4,(1,qS [102,114,97,109,
 101])),(5,(1,qS [104,101,97,100])),(6,(1,qS [116,98,111,100,121])),(7,(1,qS [116,100])),(8,(1,qS [116,102,111,111,116])),(9,(1,qS [116,104])),(10,(1,qS [116,104,101,
 97,100])),(11,(1,qS [116,114]))]),qC z68 33 [y5,y67],qM z65 y68] (.cond y65 (qR [qM z4 qB] .ret) (.seq (qR [qC z71 100 [y5,qI 6],qM z69 y71] (.cond y69 .skip (.reg [qO z73 (.bsl 9 1 3 [.s
 [],.s [],.s []] [(0,(1,qS [112])),(1,(1,qS [108,105,115,116,105,110,103])),(2,(1,qS [112,108,97,105,110,116,101,120,116]))]),qC z74 33 [y5,y73],qM z69 y74]))) (.cond y69
 (.reg [qC z76 142 [y0]]) (qR [qC z79 100 [y5,qI 5],qM z77 y79] (.cond y77 (qR [qC z81 142 [y0]] (qR [qC z83 58 [y0],qN z84 y83,qF z85 2 y84,qL z86 y85,qC z87 100 [y86,qI 5]] (.cond y87 (.reg
 [qC z89 62 [y0,qI 1]]) .skip))) (qR [qO z92 (.bin .eql y5 (qS [108,105])),qM z90 y92] (.cond y90 (.reg [qO z94 (.bsl 9 1 1 [.s []] [(0,(1,qS [108,105]))]),qC z95 143 [y0,y94]]) (qR [qO z98
 (.bin .eql y5 (qS [100,100])),qM z99 y98,qH z100 z99 (.mv y5),qH z101 z99 (.bin .eql y100 (qS [100,116])),qO z102 (.pk y99 qT y101),qM z96 y102] (.cond y96 (.reg [qO z104 (.bsl 9 1 2 [.s [],
 .s []] [(0,(1,qS [100,100])),(1,(1,qS [100,116]))]),qC z105 143 [y0,y104]]) (qR [qO z108 (.bin .eql y5 (qS [97])),qM z109 y108,qH z110 z109 (.mv y5),qH z111 z109 (.bin .eql y110 (qS [110,
 111,98,114])),qO z112 (.pk y109 qT y111),qM z113 y112,qH z114 z113 (.mv y5),qH z115 z113 (.call 100 [y114,qI 3]),qO z116 (.pk y113 qT y115),qM z106 y116] (.cond y106 (qR [qO z118 (.ld 5 true
 y3),qC z119 144 [y0,y118]] (qR [qM z4 qB] .ret)) (qR [qO z122 (.bin .eql y5 (qS [116,97,98,108,101])),qM z120 y122] (.cond y120 (qR [qC z124 142 [y0]] (qR [qF z127 3 y3,qL z128 y127,qC z129
 96 [y0,y5,y128]] (qR [qN z131 y0,qF z132 5 y131,qE (.st 1 y132 (qI 7))] (qR [qM z4 qB] .ret)))) (qR [qO z135 (.bin .eql y5 (qS [112,97,114,97,109])),qM z136 y135,qH z137 z136 (.mv y5),qH
 z138 z136 (.bin .eql y137 (qS [115,111,117,114,99,101])),qO z139 (.pk y136 qT y138),qM z140 y139,qH z141 z140 (.mv y5),qH z142 z140 (.bin .eql y141 (qS [116,114,97,99,107])),qO z143
 (.pk y140 qT y142),qM z133 y143] (.cond y133 (qR [qF z146 3 y3,qL z147 y146,qC z148 98 [y0,y5,y147]] (qR [qM z4 qB] .ret)) (qR [qO z151 (.bin .eql y5 (qS [104,114])),qM z149 y151] (.cond y149
 (qR [qC z153 142 [y0]] (qR [qF z156 3 y3,qL z157 y156,qC z158 98 [y0,y5,y157]] (qR [qM z4 qB] .ret))) (qR [qO z161 (.bin .eql y5 (qS [116,101,120,116,97,114,101,97])),qM z162 y161,qH
 z163 z162 (.mv y5),qH z164 z162 (.bin .eql y163 (qS [105,102,114,97,109,101])),qO z165 (.pk y162 qT y164),qM z166 y165,qH z167 z166 (.mv y5),qH z168 z166 (.bin .eql y167 (qS [110,111,101,
 109,98,101,100])),qO z169 (.pk y166 qT y168),qM z159 y169] (.cond y159 .skip (qR [qO z172 (.bin .eql y5 (qS [114,112])),qM z173 y172,qH z174 z173 (.mv y5),qH z175 z173 (.bin .eql y174 (qS
 [114,116])),qO z176 (.pk y173 qT y175),qM z170 y176] (.cond y170 (qR [qC z178 106 [y0,qS [114,117,98,121],qI 1]] (.cond y178 (.reg [qC z180 109 [y0,qS []]]) .skip)) (qR [qO z9 (.ld 5 true
 y3),qC z10 145 [y0,y9],qM z4 y10] .ret)))))))))))))))))))))))))))))) (qR [qF z183 3 y3,qL z184 y183,qC z185 96 [y0,y5,y184]] (qR [qM z4 qB] .ret)))),[(z4,none)]⟩
theorem ok115 : FnR Tryz.prog 0 115 cf115 := fnC_ok [8,12,14,30,32,60,62,66,70,72,75,78,80,82,88,91,93,97,103,107,117,121,123,125,126,130,134,144,145,150,152,154,155,160,171,177,179,181,182] Tryz.func115 (by kernel_rfl) (by kernel_rfl)
def cf116 : CF := ⟨130,2,qR [qO z3 (.new 51 y1),qM z4 qB] (qR [qF z8 1 y3,qL z9 y8,qM z5 y9] (.seq (.blk 0 (qR [qO z15 (.bin .eql y5 (qS [98,111,100,121])),qM z16 y15,qH z17 z16 (.mv y5),qH z18 z16 (.bin
 .eql y17 (qS [104,116,109,108])),qO z19 (.pk y16 qT y18),qM z13 y19] (.cond y13 (qR [qC z21 106 [y0,qS [98,111,100,121],qI 1]] (.cond y21 (qR [qN z23 y0,qF z24 5 y23,qE (.st 1 y24 (qI
 6))] (qR [qO z26 (.bin .eql y5 (qS [104,116,109,108])),qM z4 y26] .ret)) .skip)) (.seq (qR [qC z29 100 [y5,qI 6],qM z27 y29] (.cond y27 .skip (qR [qO z31 (.bin .eql y5 (qS [98,117,116,116,
 111,110])),qM z27 y31] (.cond y27 .skip (.reg [qO z33 (.bin .eql y5 (qS [108,105,115,116,105,110,103])),qM z27 y33]))))) (.cond y27 (qR [qC z36 106 [y0,y5,qI 1]] (.cond y36 (qR [qC z38 109
 [y0,qS []]] (.reg [qO z41 (.bsl 9 1 1 [.s []] [(0,(1,y5))]),qC z42 99 [y0,y41]])) .skip)) (qR [qO z45 (.bin .eql y5 (qS [112])),qM z43 y45] (.cond y43 (.seq (qR [qC z47 106 [y0,qS [112],qI
 3],qO z48 (.un .not y47)] (.cond y48 (.reg [qC z50 96 [y0,qS [112],.c (.c (.sl none 0 0 0))]]) .skip)) (.reg [qC z52 142 [y0]])) (qR [qO z55 (.bin .eql y5 (qS [108,105])),qM z53 y55] (.cond y53
 (qR [qC z58 106 [y0,y5,qI 2]] (.cond y58 (qR [qC z61 109 [y0,y5]] (.reg [qO z64 (.bsl 9 1 1 [.s []] [(0,(1,y5))]),qC z65 99 [y0,y64]])) .skip)) (qR [qO z68 (.bin .eql y5 (qS [100,100])),qM
 z69 y68,qH z70 z69 (.mv y5),qH z71 z69 (.bin .eql y70 (qS [100,116])),qO z72 (.pk y69 qT y71),qM z66 y72] (.cond y66 (qR [qC z75 106 [y0,y5,qI 1]] (.cond y75 (qR [qC z78 109 [y0,y5]] (.reg
 [qO z81 (.bsl 9 1 1 [.s []] [(0,(1,y5))]),qC z82 99 [y0,y81]])) .skip)) (qR [qC z85 100 [y5,qI 5],qM z83 y85] (.cond y83 (qR [qC z86 146 [],qO z87 (.len true y86),qM z88 (qI 0)] (.blk 1
 (.loop (qR [qO z89 (.bin .lss y88 y87)] (.seq (.cond y89 .skip (.exit 1)) (.seq (.blk 2 (qR [qO z90 (.ia 1 y86 y88),qL z91 y90,qM z7 y91] (qR [qC z94 106 [y0,y7,qI 1]] (.cond y94 (qR [qC z96 109
 [y0,qS []]] (qR [qC z98 146 [],qC z99 99 [y0,y98]] (.exit 1))) .skip)))) (.reg [qO z100 (.bin .add y88 (qI 1)),qM z88 y100]))))))) (qR [qC z103 100 [y5,qI 3],qM z101 y103] (.cond y101 (.reg [qC
 z106 147 [y0,y5]]) (qR [qC z109 100 [y5,qI 7],qM z107 y109] (.cond y107 (qR [qC z112 106 [y0,y5,qI 1]] (.cond y112 (qR [qC z114 109 [y0,qS []]] (qR [qO z117 (.bsl 9 1 1 [.s []] [(0,(1,y5))]),
 qC z118 99 [y0,y117]] (.reg [qN z120 y0,qF z121 4 y120,qL z122 y121,qC z123 110 [y122]]))) .skip)) (qR [qO z126 (.bin .eql y5 (qS [98,114])),qM z124 y126] (.cond y124 (qR [qO z128 (.bld [.i
 .i64 (.ofNat 0),.s [],.s [],.sl none 0 0 0,.b false] [(0,(1,qI 1)),(1,(1,qS [98,114]))]),qC z129 115 [y0,y128],qM z4 y129] .ret) (.reg [qC z12 148 [y0,y5]])))))))))))))))))))) (qR [qM
 z4 qB] .ret))),[(z4,none)]⟩
theorem ok116 : FnR Tryz.prog 0 116 cf116 := fnC_ok [10,11,14,20,22,25,28,30,32,34,35,37,39,40,44,46,49,51,54,56,57,59,60,62,63,67,73,74,76,77,79,80,84,92,93,95,97,102,104,105,108,110,111,113,115,116,119,125,127] Tryz.func116 (by kernel_rfl) (by kernel_rfl)
def cf117 : CF := ⟨34,1,qR [qM z2 qB] (.seq (qR [qO z7 (.len true y0),qO z8 (.bin .gtr y7 (qI 12))] (.cond y8 (qR [qM z2 qB] .ret) .skip)) (qR [qM z3 (qS [])] (.seq (qR [qM z9 y0,qO z10 (.len true y9),qM z11 (qI
 0)] (.blk 0 (.loop (qR [qO z12 (.bin .lss y11 y10)] (.seq (.cond y12 .skip (.exit 0)) (.seq (.blk 1 (qR [qO z13 (.ia 2 y9 y11),qO z14 (.ld 2 true y13),qO z5 (.new 79 (.c (.a [.s [],.s []]))),qE
 (.st 2 y5 y14)] (.seq (qR [qF z15 0 y5,qL z16 y15,qO z18 (.bin .leq y16 y3),qM z19 y18,qH z20 z19 (.fa 0 y5),qH z21 z19 (.ld 1 false y20),qH z22 z19 (.call 31 [y21]),qH z23 z19 (.un .not y22),
 qO z24 (.pk y19 qT y23),qM z25 y24,qH z26 z25 (.fa 1 y5),qH z27 z25 (.ld 1 false y26),qH z28 z25 (.len false y27),qH z29 z25 (.bin .gtr y28 (qI 4096)),qO z30 (.pk y25 qT y29)] (.cond y30 (qR
 [qM z2 qB] .ret) .skip)) (.reg [qF z31 0 y5,qL z32 y31,qM z3 y32])))) (.reg [qO z33 (.bin .add y11 (qI 1)),qM z11 y33]))))))) (qR [qM z2 qT] .ret)))),[(z2,none)]⟩
theorem ok117 : FnR Tryz.prog 0 117 cf117 := fnC_ok [6,17] Tryz.func117 (by kernel_rfl) (by kernel_rfl)
def cf123 : CF := ⟨95,3,qR [qM z6 (.c (.c (.sl none 0 0 0)))] (qR [qO z12 (.slc 1 y0 (some y1) none none)] (qR [qO z14 (.len true y2),qM z7 y14] (.seq (qR [qO z16 (.bin .eql y7 (qI 0))] (.cond y16 (qR [qM z6 y0]
 .ret) .skip)) (qR [qO z19 (.len true y0),qM z8 y19] (.seq (qR [qO z22 (.bin .eql y1 y8)] (.cond y22 (qR [qO z25 (.app 53 1 false y0 y2),qM z6 y25] .ret) .skip)) (.seq (qR [qO z28 (.bin .add y8 y7),
 qO z30 .bad,qO z31 (.bin .gtr y28 y30)] (.cond y31 (qR [qO z34 (.slc 1 y0 none (some y1) none),qO z37 (.bin .add y8 y7),qO z39 (.bin .sub y37 y1),qO z40 .bad,qM z9 y40] (qR [qO z43 (.slc 1 y9
 (some y1) none none),qO z45 (.cp 1 false y43 y2)] (.seq (.dreg [qM z46 y9,qM z47 y1,qM z48 y7,qO z49 (.bin .add y47 y48),qO z50 (.slc 1 y46 (some y49) none none),qM z51 y0,qM z52 y1,qO z53
 (.slc 1 y51 (some y52) none none),qO z54 (.cp 1 false y50 y53)]) (qR [qM z6 y9] .ret)))) .skip)) (qR [qO z59 (.bin .add y8 y7),qO z60 (.slc 1 y0 none (some y59) none),qM z0 y60] (.seq (qR [qO z65
 (.bin .add y1 y7),qO z66 (.slc 1 y0 (some y65) none none),qC z67 153 [y2,y66],qO z68 (.un .not y67)] (.cond y68 (.seq (.dreg [qM z69 y0,qM z70 y1,qM z71 y7,qO z72 (.bin .add y70 y71),qO z73
 (.slc 1 y69 (some y72) none none),qM z74 y0,qM z75 y1,qO z76 (.slc 1 y74 (some y75) none none),qO z77 (.cp 1 false y73 y76)]) (qR [qO z80 (.slc 1 y0 (some y1) none none),qO z82 (.cp 1 false y80
 y2)] (qR [qM z6 y0] .ret))) .skip)) (qR [qO z86 (.slc 1 y0 (some y8) none none),qO z88 (.cp 1 false y86 y2)] (qR [qO z91 (.slc 1 y0 (some y1) none none),qC z93 154 [y91,y7]] (qR [qM z6 y0]
 .ret))))))))))),[(z6,none)]⟩
theorem ok123 : FnR Tryz.prog 0 123 cf123 := fnC_ok [10,11,13,15,17,18,20,21,23,24,26,27,29,32,33,35,36,38,41,42,44,55,56,57,58,61,62,63,64,78,79,81,83,84,85,87,89,90,92,94] Tryz.func123 (by kernel_rfl) (by kernel_rfl)
def cf125 : CF := ⟨15,2,qR [qC z8 90 [y0],qO z9 (.ext 0 y8),qO z10 (.ext 1 y8),qM z4 y9,qM z5 y10] (.reg [qC z14 91 [y4,y1,y5]]),[]⟩
theorem ok125 : FnR Tryz.prog 0 125 cf125 := fnC_ok [6,7,11,12,13] Tryz.func125 (by kernel_rfl) (by kernel_rfl)
def cf126 : CF := ⟨31,2,qR [qM z4 (qI 0)] (.seq (qR [qM z5 (qI 1)] (.blk 0 (.loop (.seq (qR [qO z10 (.len true y0),qO z11 (.bin .leq y5 y10)] (.cond y11 .skip (.exit 0))) (.seq (.blk 1 (qR [qM z14 y1,qO z15 (.len
 true y14),qM z16 (qI 0)] (.blk 2 (.loop (qR [qO z17 (.bin .lss y16 y15)] (.seq (.cond y17 .skip (.exit 2)) (.seq (.blk 3 (qR [qO z18 (.ia 1 y14 y16),qL z19 y18,qM z7 y19] (qR [qO z22 (.len true
 y0),qO z24 (.bin .sub y22 y5),qO z25 (.ia 1 y0 y24),qL z26 y25,qO z28 (.bin .eql y26 y7)] (.cond y28 (qR [qM z4 y5] .ret) .skip)))) (.reg [qO z30 (.bin .add y16 (qI 1)),qM z16 y30])))))))) (.reg
 [qO z13 (.bin .add y5 (qI 1)),qM z5 y13])))))) (qR [qM z4 (qI 0)] .ret)),[(z4,none)]⟩
theorem ok126 : FnR Tryz.prog 0 126 cf126 := fnC_ok [8,9,12,20,21,23,27,29] Tryz.func126 (by kernel_rfl) (by kernel_rfl)
def cf127 : CF := ⟨24,1,qR [qM z2 (.c (.c (.sl none 0 0 0)))] (qR [qM z3 (.c (.c (.sl none 0 0 0)))] (.seq (qR [qN z7 y0,qF z8 3 y7,qL z9 y8,qO z10 (.len true y9),qM z11 (qI 0)] (.blk 0 (.loop (qR [qO z12 (.bin
 .lss y11 y10)] (.seq (.cond y12 .skip (.exit 0)) (.seq (.blk 1 (qR [qO z13 (.ia 1 y9 y11),qL z14 y13,qM z5 y14] (.reg [qN z17 y5,qF z18 2 y17,qL z19 y18,qO z20 (.bsl 9 1 1 [.s []] [(0,(1,
 y19))]),qO z21 (.app 9 1 false y3 y20),qM z3 y21]))) (.reg [qO z22 (.bin .add y11 (qI 1)),qM z11 y22]))))))) (qR [qM z2 y3] .ret))),[(z2,none)]⟩
theorem ok127 : FnR Tryz.prog 0 127 cf127 := fnC_ok [6,15,16,23] Tryz.func127 (by kernel_rfl) (by kernel_rfl)
def cf129 : CF := ⟨14,1,qR [qM z2 (qS [])] (qR [qO z4 (.bld [.s [],.s [],.s [],.s [],.s [],.s [],.s [],.s [],.s []] [(1,(1,qS [97,114,101,97,32,98,97,115,101,32,98,114,32,99,111,108,32,
 101,109,98,101,100,32,104,114,32,105,109,103,32,105,110,112,117,116,32,108,105,110,107,32,109,101,116,97,32,112,97,114,97,109,32,115,111,117,114,99,101,32,
 116,114,97,99,107,32,119,98,114])),(2,(1,qS [97,100,100,114,101,115,115,32,97,112,112,108,101,116,32,97,114,101,97,32,97,114,116,105,99,108,101,32,97,115,105,
 100,101,32,98,97,115,101,32,98,108,111,99,107,113,117,111,116,101,32,98,111,100,121,32,98,114,32,98,117,116,116,111,110,32,99,97,112,116,105,111,110,32,99,
 101,110,116,101,114,32,99,111,108,32,99,111,108,103,114,111,117,112,32,100,100,32,100,101,116,97,105,108,115,32,100,105,114,32,100,105,118,32,100,108,32,100,
 116,32,101,109,98,101,100,32,102,105,101,108,100,115,101,116,32,102,105,103,99,97,112,116,105,111,110,32,102,105,103,117,114,101,32,102,111,111,116,101,114,
 32,102,111,114,109,32,104,49,32,104,50,32,104,51,32,104,52,32,104,53,32,104,54,32,104,101,97,100,32,104,101,97,100,101,114,32,104,103,114,111,117,112,32,
 104,114,32,104,116,109,108,32,105,102,114,97,109,101,32,105,109,103,32,105,110,112,117,116,32,108,105,32,108,105,110,107,32,109,97,105,110,32,109,97,114,113,
 117,101,101,32,109,101,110,117,32,109,101,116,97,32,110,97,118,32,110,111,101,109,98,101,100,32,110,111,102,114,97,109,101,115,32,111,98,106,101,99,116,32,
 111,108,32,112,32,112,97,114,97,109,32,112,114,101,32,115,99,114,105,112,116,32,115,101,97,114,99,104,32,115,101,99,116,105,111,110,32,115,101,108,101,99,
 116,32,115,111,117,114,99,101,32,115,116,121,108,101,32,115,117,109,109,97,114,121,32,116,97,98,108,101,32,116,98,111,100,121,32,116,100,32,116,101,120,116,
 97,114,101,97,32,116,102,111,111,116,32,116,104,32,116,104,101,97,100,32,116,105,116,108,101,32,116,114,32,116,114,97,99,107,32,117,108,32,119,98,114,32,120,
 109,112])),(3,(1,qS [97,32,98,32,98,105,103,32,99,111,100,101,32,101,109,32,102,111,110,116,32,105,32,110,111,98,114,32,115,32,115,109,97,108,108,32,115,116,
 114,105,107,101,32,115,116,114,111,110,103,32,116,116,32,117])),(4,(1,qS [100,100,32,100,116,32,108,105,32,111,112,116,105,111,110,32,112,32,114,112,32,114,
 116])),(5,(1,qS [104,49,32,104,50,32,104,51,32,104,52,32,104,53,32,104,54])),(6,(1,qS [97,100,100,114,101,115,115,32,97,114,116,105,99,108,101,32,97,115,105,
 100,101,32,98,108,111,99,107,113,117,111,116,101,32,99,101,110,116,101,114,32,100,101,116,97,105,108,115,32,100,105,114,32,100,105,118,32,100,108,32,102,105,
 101,108,100,115,101,116,32,102,105,103,99,97,112,116,105,111,110,32,102,105,103,117,114,101,32,102,111,111,116,101,114,32,102,111,114,109,32,104,101,97,100,
 101,114,32,104,103,114,111,117,112,32,109,97,105,110,32,109,101,110,117,32,110,97,118,32,111,108,32,112,114,101,32,115,101,97,114,99,104,32,115,101,99,116,
 105,111,110,32,115,117,109,109,97,114,121,32,117,108])),(7,(1,qS [97,112,112,108,101,116,32,109,97,114,113,117,101,101,32,111,98,106,101,99,116])),(8,(1,qS [98,
 97,115,101,32,108,105,110,107,32,109,101,116,97,32,116,105,116,108,101,32,115,116,121,108,101,32,115,99,114,105,112,116,32,110,111,102,114,97,109,101,115]))]),
 qO z3 (.new 48 (.c (.a [.s [],.s [],.s [],.s [],.s [],.s [],.s [],.s [],.s []]))),qE (.st 9 y3 y4)] (.seq (qR [qO z6 (.bin .lss y0 (qI 1)),qM z7 y6,qH z8 z7 (.mv y0),qH z9 z7 (.bin .geq
 y8 (qI 9)),qO z10 (.pk y7 qT y9)] (.cond y10 (qR [qM z2 (qS [])] .ret) .skip)) (qR [qO z12 (.ip 1 9 y3 y0),qL z13 y12,qM z2 y13] .ret))),[(z2,none)]⟩
theorem ok129 : FnR Tryz.prog 0 129 cf129 := fnC_ok [5,11] Tryz.func129 (by kernel_rfl) (by kernel_rfl)
def cf130 : CF := ⟨19,2,qR [qM z4 (qI 0)] (.seq (qR [qO z7 (.len true y0),qM z8 (qI 0)] (.blk 0 (.loop (qR [qO z9 (.bin .lss y8 y7)] (.seq (.cond y9 .skip (.exit 0)) (.seq (.blk 1 (qR [qM z5 y8] (qR [qO z14 (.ia 1
 y0 y5),qL z15 y14,qO z16 (.callv y1 [y15])] (.cond y16 (qR [qM z4 y5] .ret) .skip)))) (.reg [qO z18 (.bin .add y8 (qI 1)),qM z8 y18]))))))) (qR [qM z4 (.c (.c (.i .i64 (.negSucc 0))))] .ret)),
 [(z4,none)]⟩
theorem ok130 : FnR Tryz.prog 0 130 cf130 := fnC_ok [6,10,11,12,13,17] Tryz.func130 (by kernel_rfl) (by kernel_rfl)
def cf131 : CF := ⟨10,2,qR [qM z3 qB] (.seq (.dreg [qM z4 y0,qN z5 y4,qF z6 0 y5,qL z7 y6,qL z8 y1,qO z9 (.bin .eql y7 y8),qM z3 y9]) .ret),[(z3,none)]⟩
theorem ok131 : FnR Tryz.prog 0 131 cf131 := fnC_ok [] Tryz.func131 (by kernel_rfl) (by kernel_rfl)
def cf132 : CF := ⟨27,3,qR [qM z6 qB] (.seq (qR [qO z9 (.len true y0),qO z10 (.bin .sub y9 (qI 1)),qM z7 y10] (.blk 0 (.loop (.seq (qR [qO z12 (.bin .geq y7 (qI 0))] (.cond y12 .skip (.exit 0))) (.seq (.blk 1
 (.seq (qR [qO z17 (.ia 1 y0 y7),qL z18 y17,qO z20 (.bin .eql y18 y1)] (.cond y20 (qR [qM z6 qT] .ret) .skip)) (qR [qO z23 (.ia 1 y0 y7),qL z24 y23,qC z26 156 [y24,y2]] (.cond y26 (.exit 0)
 .skip)))) (.reg [qO z14 (.bin .sub y7 (qI 1)),qM z7 y14])))))) (qR [qM z6 qB] .ret)),[(z6,none)]⟩
theorem ok132 : FnR Tryz.prog 0 132 cf132 := fnC_ok [8,11,13,15,16,19,21,22,25] Tryz.func132 (by kernel_rfl) (by kernel_rfl)
def cf134 : CF := ⟨30,2,qR [qM z4 (qI 0)] (qR [qM z5 (qI 0)] (.seq (.blk 0 (.loop (.seq (qR [qO z9 (.len true y0),qO z10 (.bin .lss y5 y9)] (.cond y10 .skip (.exit 0))) (.blk 1 (qR [qO z13 (.len true y0),qO z14
 (.bin .sub y13 (qI 1)),qO z16 (.bin .sub y14 y5),qO z17 (.ia 1 y0 y16),qL z18 y17,qM z6 y18] (.seq (qR [qO z21 (.bin .eql y6 y1),qM z22 y21,qH z23 z22 (.mv y6),qH z24 z22 (.call 100 [y23,qI
 4]),qH z25 z22 (.un .not y24),qO z26 (.pk y22 qT y25)] (.cond y26 (.exit 0) .skip)) (.reg [qO z28 (.bin .add y5 (qI 1)),qM z5 y28]))))))) (qR [qM z4 y5] .ret))),[(z4,none)]⟩
theorem ok134 : FnR Tryz.prog 0 134 cf134 := fnC_ok [7,8,11,12,15,19,20,27,29] Tryz.func134 (by kernel_rfl) (by kernel_rfl)
def cf135 : CF := ⟨26,1,qR [qM z2 (qI 0)] (qR [qN z5 y0,qF z6 0 y5,qL z7 y6,qO z8 (.len true y7),qM z3 y8] (.seq (.blk 0 (.loop (.seq (qR [qO z10 (.bin .gtr y3 (qI 0)),qM z11 y10,qG z12 z11 (.mv y0),qG z13
 z11 (.nc y12),qG z14 z11 (.fa 0 y13),qG z15 z11 (.ld 1 false y14),qG z16 z11 (.mv y3),qG z17 z11 (.bin .sub y16 (qI 1)),qG z18 z11 (.ia 4 y15 y17),qG z19 z11 (.fa 3 y18),qG z20 z11 (.ld 1
 false y19),qG z21 z11 (.un .not y20),qO z22 (.pk y11 y21 qB)] (.cond y22 .skip (.exit 0))) (.blk 1 (.reg [qO z24 (.bin .sub y3 (qI 1)),qM z3 y24]))))) (qR [qM z2 y3] .ret))),[(z2,none)]⟩
theorem ok135 : FnR Tryz.prog 0 135 cf135 := fnC_ok [4,9,23,25] Tryz.func135 (by kernel_rfl) (by kernel_rfl)
def cf136 : CF := ⟨8,1,qR [qM z2 (qI 0)] (qR [qN z4 y0,qF z5 0 y4,qL z6 y5,qO z7 (.len true y6),qM z2 y7] .ret),[(z2,none)]⟩
theorem ok136 : FnR Tryz.prog 0 136 cf136 := fnC_ok [3] Tryz.func136 (by kernel_rfl) (by kernel_rfl)
def cf137 : CF := ⟨26,2,qR [qM z4 qB] (qR [qN z9 y0,qF z10 4 y9,qL z11 y10,qC z13 138 [y11,y1],qO z14 (.ext 0 y13),qO z15 (.ext 1 y13),qO z5 (.new 123 (.c (.a [.i .i64 (.ofNat 0),.s [],.sl none 0 0 0]))),
 qE (.st 3 y5 y14)] (qR [qF z16 0 y5,qL z17 y16,qO z18 (.bin .eql y17 (qI 0)),qM z19 y18,qH z20 z19 (.mv y0),qH z21 z19 (.fa 0 y5),qH z22 z19 (.ld 1 false y21),qH z23 z19 (.call 101 [y20,
 y22]),qH z24 z19 (.bin .geq y23 (qI 0)),qO z25 (.pk y19 qT y24),qM z4 y25] .ret)),[(z4,none)]⟩
theorem ok137 : FnR Tryz.prog 0 137 cf137 := fnC_ok [6,7,8,12] Tryz.func137 (by kernel_rfl) (by kernel_rfl)
def cf138 : CF := ⟨27,2,qR [qO z4 (.new 123 (.c (.a [.i .i64 (.ofNat 0),.s [],.sl none 0 0 0]))),qM z5 qB] (.seq (qR [qO z7 (.bin .lss y1 (qI 0)),qM z8 y7,qH z9 z8 (.mv y1),qH z10 z8 (.mv y0),qH z11 z8 (.nc
 y10),qH z12 z8 (.fa 0 y11),qH z13 z8 (.ld 1 false y12),qH z14 z8 (.len true y13),qH z15 z8 (.bin .geq y9 y14),qO z16 (.pk y8 qT y15)] (.cond y16 (qR [qO z17 (.bld [.i .i64 (.ofNat 0),.s [],.sl
 none 0 0 0] []),qE (.st 3 y4 y17),qM z5 qB] .ret) .skip)) (qR [qN z19 y0,qF z20 0 y19,qL z21 y20,qO z23 (.ia 4 y21 y1),qF z24 0 y23,qO z25 (.ld 3 true y24),qC z26 158 [y25],qE (.st 3 y4
 y26),qM z5 qT] .ret)),[(z4,some ((3,true))),(z5,none)]⟩
theorem ok138 : FnR Tryz.prog 0 138 cf138 := fnC_ok [6,18,22] Tryz.func138 (by kernel_rfl) (by kernel_rfl)
def cf139 : CF := ⟨24,3,qR [qO z5 (.new 123 y2),qM z6 qB] (qR [qC z10 159 [y0,y1],qM z7 y10] (.seq (qR [qO z12 (.bin .geq y7 (qI 0))] (.cond y12 (.dreg [qM z13 y0,qN z14 y13,qF z15 0 y14,qL z16 y15,qM z17 y7,
 qO z18 (.ld 3 true y5),⟨some z19,none,.call 158 [y18],[⟨some z16,none,.ld 1 false y15⟩]⟩,qO z20 (.ia 4 y16 y17),qF z21 0 y20,qE (.st 3 y21 y19)]) .skip)) (qR [qO z23 (.bin .geq y7 (qI 0)),
 qM z6 y23] .ret))),[(z6,none)]⟩
theorem ok139 : FnR Tryz.prog 0 139 cf139 := fnC_ok [8,9,11,22] Tryz.func139 (by kernel_rfl) (by kernel_rfl)
def cf140 : CF := ⟨16,1,qR [qO z2 (.new 123 (.c (.a [.i .i64 (.ofNat 0),.s [],.sl none 0 0 0])))] (.seq (.dreg [qM z3 y0,qN z4 y3,qF z5 0 y4,qL z6 y5,qM z7 y0,qN z8 y7,qF z9 2 y8,qL z10 y9,qM z11 y0,qN
 z12 y11,qF z13 4 y12,qL z14 y13,qO z15 (.bld [.i .i64 (.ofNat 0),.s [],.sl none 0 0 0] [(0,(1,y6)),(1,(1,y10)),(2,(1,y14))]),qE (.st 3 y2 y15)]) .ret),[(z2,some ((3,true)))]⟩
theorem ok140 : FnR Tryz.prog 0 140 cf140 := fnC_ok [] Tryz.func140 (by kernel_rfl) (by kernel_rfl)
end
end Ev
end
section
namespace Ev
variable [Tx]
set_option autoImplicit false
noncomputable section
def cf142 : CF := ⟨9,1,qR [qC z3 106 [y0,qS [112],qI 3]] (.cond y3 (qR [qC z5 109 [y0,qS [112]]] (.reg [qO z7 (.bsl 9 1 1 [.s []] [(0,(1,qS [112]))]),qC z8 99 [y0,y7]])) .skip),[]⟩
theorem ok142 : FnR Tryz.prog 0 142 cf142 := fnC_ok [2,4,6] Tryz.func142 (by kernel_rfl) (by kernel_rfl)
def cf144 : CF := ⟨77,2,qR [qO z3 (.new 51 y1)] (.seq (qR [qF z7 1 y3,qL z8 y7,qO z9 (.bin .eql y8 (qS [97]))] (.cond y9 (qR [qN z12 y0,qF z13 4 y12,qL z14 y13,qC z15 164 [y14,qS [97]],qO z16 (.ext 0 y15),qO
 z17 (.ext 1 y15),qO z4 (.new 123 (.c (.a [.i .i64 (.ofNat 0),.s [],.sl none 0 0 0]))),qE (.st 3 y4 y16),qM z5 y17] (qR [qM z18 y5] (.cond y18 (qR [qC z20 147 [y0,qS [97]]] (.seq (.dreg [qM z21
 y0,qN z22 y21,qF z23 4 y22,qL z24 y23,qF z25 0 y4,qL z26 y25,qC z27 165 [y24,y26]]) (qR [qF z29 0 y4,qL z30 y29,qC z31 101 [y0,y30],qM z6 y31] (qR [qO z33 (.bin .geq y6 (qI 0))] (.cond y33
 (.dreg [qM z34 y0,qM z35 y0,qN z36 y35,qF z37 3 y36,qL z38 y37,qM z39 y6,qM z40 y6,qO z41 (.slc 1 y38 none (some y39) (some y40)),qM z42 y0,qN z43 y42,qF z44 3 y43,qL z45 y44,qM z46 y6,
 qO z47 (.bin .add y46 (qI 1)),qO z48 (.slc 1 y45 (some y47) none none),qO z49 (.app 53 1 false y41 y48),qN z50 y34,qF z51 3 y50,qE (.st 1 y51 y49)]) .skip))))) .skip))) .skip)) (qR [qC z53 114
 [y0]] (.seq (qR [qF z54 1 y3,qL z55 y54,qO z56 (.bin .eql y55 (qS [110,111,98,114])),qM z57 y56,qG z58 z57 (.mv y0),qG z59 z57 (.call 106 [y58,qS [110,111,98,114],qI 1]),qO z60 (.pk y57
 y59 qB)] (.cond y60 (qR [qC z62 147 [y0,qS [110,111,98,114]]] (.reg [qC z64 114 [y0]])) .skip)) (.dreg [qM z65 y0,qN z66 y65,qF z67 4 y66,qL z68 y67,qM z69 y0,qF z70 1 y3,qL z71 y70,qF z72
 3 y3,qL z73 y72,⟨some z74,none,.call 96 [y69,y71,y73],[⟨some z68,none,.ld 1 false y67⟩]⟩,⟨some z75,none,.call 140 [y74],[⟨some z68,none,.ld 1 false y67⟩]⟩,qC z76 166 [y68,y75]])))),
 []⟩
theorem ok144 : FnR Tryz.prog 0 144 cf144 := fnC_ok [10,11,19,28,32,52,61,63] Tryz.func144 (by kernel_rfl) (by kernel_rfl)
def cf145 : CF := ⟨67,2,qR [qO z3 (.new 51 y1),qM z4 qB] (qR [qF z6 1 y3,qL z7 y6,qM z5 y7] (.seq (.blk 0 (qR [qO z10 (.bin .eql y5 (qS [98,117,116,116,111,110])),qM z11 y10,qG z12 z11 (.mv y0),qG z13 z11
 (.call 106 [y12,qS [98,117,116,116,111,110],qI 1]),qO z14 (.pk y11 y13 qB),qM z8 y14] (.cond y8 (qR [qC z16 109 [y0,qS []]] (.reg [qO z18 (.bsl 9 1 1 [.s []] [(0,(1,qS [98,117,116,116,
 111,110]))]),qC z19 99 [y0,y18]])) (qR [qO z22 (.bin .eql y5 (qS [120,109,112])),qM z20 y22] (.cond y20 (.reg [qC z24 142 [y0]]) (qR [qO z27 (.bin .eql y5 (qS [111,112,116,105,111,110])),
 qM z28 y27,qG z29 z28 (.mv y0),qG z30 z28 (.call 58 [y29]),qG z31 z28 (.nc y30),qG z32 z28 (.fa 2 y31),qG z33 z28 (.ld 1 false y32),qG z34 z28 (.bin .eql y33 (qS [111,112,116,105,111,
 110])),qO z35 (.pk y28 y34 qB),qM z25 y35] (.cond y25 (.reg [qC z37 62 [y0,qI 1]]) .skip))))))) (qR [qC z39 114 [y0]] (.seq (qR [qM z40 y5] (.blk 1 (.seq (.blk 3 (.seq (.blk 2 (.seq (.seq (qR [qO
 z42 (.bin .eql y40 (qS [105,109,97,103,101])),qM z41 y42] (.cond y41 (.exit 2) .skip)) (.seq (qR [qO z44 (.bin .eql y40 (qS [97,114,101,97])),qM z43 y44] (.cond y43 .skip (qR [qO z45 (.bin
 .eql y40 (qS [98,114])),qM z43 y45] (.cond y43 .skip (qR [qO z46 (.bin .eql y40 (qS [101,109,98,101,100])),qM z43 y46] (.cond y43 .skip (qR [qO z47 (.bin .eql y40 (qS [105,109,103])),qM z43
 y47] (.cond y43 .skip (qR [qO z48 (.bin .eql y40 (qS [105,110,112,117,116])),qM z43 y48] (.cond y43 .skip (.reg [qO z49 (.bin .eql y40 (qS [119,98,114])),qM z43 y49]))))))))))) (.cond y43
 (.exit 3) .skip))) (.exit 1))) (.reg [qM z5 (qS [105,109,103])]))) (.seq (qR [qF z52 3 y3,qL z53 y52,qC z54 98 [y0,y5,y53]] (qR [qM z4 qB] .ret)) (.exit 1))))) (qR [qF z57 3 y3,qL z58 y57,qC
 z59 96 [y0,y5,y58]] (.seq (qR [qC z61 100 [y5,qI 7]] (.cond y61 (.reg [qN z63 y0,qF z64 4 y63,qL z65 y64,qC z66 104 [y65]]) .skip)) (qR [qM z4 qB] .ret))))))),[(z4,none)]⟩
theorem ok145 : FnR Tryz.prog 0 145 cf145 := fnC_ok [9,15,17,21,23,26,36,38,50,51,55,56,60,62] Tryz.func145 (by kernel_rfl) (by kernel_rfl)
def cf156 : CF := ⟨34,2,qR [qM z4 qB] (.seq (.blk 0 (qR [qO z7 (.bin .eql y0 (qS [104,116,109,108])),qM z8 y7,qH z9 z8 (.mv y0),qH z10 z8 (.bin .eql y9 (qS [116,97,98,108,101])),qO z11 (.pk y8 qT y10),qM
 z5 y11] (.cond y5 (qR [qM z4 qT] .ret) (qR [qO z14 (.bin .eql y1 (qI 4)),qM z12 y14] (.cond y12 (qR [qM z4 qB] .ret) (.seq (qR [qO z17 (.bin .eql y1 (qI 2)),qM z18 y17,qG z19 z18 (.mv y0),qG z20
 z18 (.bin .eql y19 (qS [111,108])),qG z21 z18 (.mv y20),qH z22 z21 (.mv y0),qH z23 z21 (.bin .eql y22 (qS [117,108])),qG z24 z18 (.pk y21 qT y23),qO z25 (.pk y18 y24 qB),qM z15 y25] (.cond
 y15 .skip (.reg [qO z27 (.bin .eql y1 (qI 3)),qM z28 y27,qG z29 z28 (.mv y0),qG z30 z28 (.bin .eql y29 (qS [98,117,116,116,111,110])),qO z31 (.pk y28 y30 qB),qM z15 y31]))) (.cond y15 (qR
 [qM z4 qT] .ret) .skip))))))) (qR [qC z33 128 [qS [97,112,112,108,101,116,32,99,97,112,116,105,111,110,32,116,100,32,116,104,32,109,97,114,113,117,101,101,32,111,98,
 106,101,99,116],y0],qM z4 y33] .ret)),[(z4,none)]⟩
theorem ok156 : FnR Tryz.prog 0 156 cf156 := fnC_ok [6,13,16,26,32] Tryz.func156 (by kernel_rfl) (by kernel_rfl)
def cf158 : CF := ⟨8,1,qR [qO z1 (.new 123 y0),qO z2 (.new 123 (.c (.a [.i .i64 (.ofNat 0),.s [],.sl none 0 0 0])))] (qR [qF z3 2 y1,qL z4 y3,qC z5 35 [y4],qF z6 2 y1,qE (.st 1 y6 y5)] (qR [qO z7 (.ld 3 true
 y1),qE (.st 3 y2 y7)] .ret)),[(z2,some ((3,true)))]⟩
theorem ok158 : FnR Tryz.prog 0 158 cf158 := fnC_ok [] Tryz.func158 (by kernel_rfl) (by kernel_rfl)
def cf159 : CF := ⟨11,2,qR [qO z3 (.new 3 y1),qM z4 (qI 0)] (qR [qN z6 y0,qF z7 0 y6,qL z8 y7,qO z9 (.mkf 175 [y3]),qC z10 174 [y8,y9],qM z4 y10] .ret),[(z4,none)]⟩
theorem ok159 : FnR Tryz.prog 0 159 cf159 := fnC_ok [5] Tryz.func159 (by kernel_rfl) (by kernel_rfl)
def cf166 : CF := ⟨73,2,qR [qO z3 (.new 123 y1)] (qR [qO z9 (.ld 3 true y3),qC z10 180 [y9],qO z4 (.new 170 (.c (.a [.s [],.s []]))),qE (.st 2 y4 y10)] (qR [qO z11 .mkm,qM z5 y11] (qR [qM z6 (.c (.c (.i .i64
 (.negSucc 0))))] (.seq (qR [qC z13 135 [y0],qM z7 y13] (.blk 0 (.loop (.seq (qR [qN z16 y0,qF z17 0 y16,qL z18 y17,qO z19 (.len true y18),qO z20 (.bin .lss y7 y19)] (.cond y20 .skip (.exit 0)))
 (.seq (.blk 1 (qR [qN z24 y0,qF z25 0 y24,qL z26 y25,qO z28 (.ia 4 y26 y7),qF z29 0 y28,qO z30 (.ld 3 true y29),qC z31 180 [y30],qO z8 (.new 170 (.c (.a [.s [],.s []]))),qE (.st 2 y8 y31)]
 (.seq (qR [qO z32 (.ld 2 true y8),qO z33 (.ld 2 true y4),qO z34 (.aeq false [.s,.s] y32 y33),qM z35 y34,qG z36 z35 (.mv y6),qG z37 z35 (.bin .lss y36 (qI 0)),qO z38 (.pk y35 y37 qB)] (.cond
 y38 (.reg [qM z6 y7]) .skip)) (.dreg [qM z40 y5,qO z41 (.ld 2 true y8),qO z42 (.lkp [.s,.s] (.i .i64 (.ofNat 0)) y40 y41),qO z43 (.bin .add y42 (qI 1)),⟨some z44,none,.men [.s,.s] (.i .i64
 (.ofNat 0)) y40 y41,[⟨some z42,none,.lkp [.s,.s] (.i .i64 (.ofNat 0)) y40 y41⟩]⟩,qO z45 (.ext 1 y44),qE (.est y40 y45 y43)])))) (.reg [qO z22 (.bin .add y7 (qI 1)),qM z7 y22])))))) (.seq (qR
 [qO z47 (.ld 2 true y4),qO z48 (.lkp [.s,.s] (.i .i64 (.ofNat 0)) y5 y47),qO z49 (.bin .geq y48 (qI 3))] (.cond y49 (.reg [qN z52 y0,qF z53 0 y52,qL z54 y53,qO z57 (.bin .add y6 (qI 1)),qC z58
 179 [y54,y6,y57],qN z59 y0,qF z60 0 y59,qE (.st 1 y60 y58)]) .skip)) (.dreg [qM z61 y0,qM z62 y0,qN z63 y62,qF z64 0 y63,qL z65 y64,qO z66 (.ld 3 true y3),⟨some z67,none,.call 158 [y66],
 [⟨some z65,none,.ld 1 false y64⟩]⟩,qO z68 (.bld [.i .i64 (.ofNat 0),.s [],.sl none 0 0 0,.b false] [(0,(3,y67))]),qO z69 (.bsl 125 4 1 [.i .i64 (.ofNat 0),.s [],.sl none 0 0 0,.b false]
 [(0,(4,y68))]),qO z70 (.app 125 4 false y65 y69),qN z71 y61,qF z72 0 y71,qE (.st 1 y72 y70)])))))),[]⟩
theorem ok166 : FnR Tryz.prog 0 166 cf166 := fnC_ok [12,14,15,21,23,27,39,46,50,51,55,56] Tryz.func166 (by kernel_rfl) (by kernel_rfl)
def cf174 : CF := ⟨19,2,qR [qM z4 (qI 0)] (.seq (qR [qO z7 (.len true y0),qM z8 (qI 0)] (.blk 0 (.loop (qR [qO z9 (.bin .lss y8 y7)] (.seq (.cond y9 .skip (.exit 0)) (.seq (.blk 1 (qR [qM z5 y8] (qR [qO z14 (.ia 4
 y0 y5),qO z15 (.ld 4 true y14),qO z16 (.callv y1 [y15])] (.cond y16 (qR [qM z4 y5] .ret) .skip)))) (.reg [qO z18 (.bin .add y8 (qI 1)),qM z8 y18]))))))) (qR [qM z4 (.c (.c (.i .i64 (.negSucc
 0))))] .ret)),[(z4,none)]⟩
theorem ok174 : FnR Tryz.prog 0 174 cf174 := fnC_ok [6,10,11,12,13,17] Tryz.func174 (by kernel_rfl) (by kernel_rfl)
def cf175 : CF := ⟨14,2,qR [qO z2 (.new 125 y0),qM z3 qB] (qR [qF z4 3 y2,qL z5 y4,qO z6 (.un .not y5),qM z7 y6,qG z8 z7 (.fa 0 y2),qG z9 z7 (.fa 0 y8),qG z10 z7 (.ld 1 false y9),qG z11 z7 (.ld 1 false y1),
 qG z12 z7 (.bin .eql y10 y11),qO z13 (.pk y7 y12 qB),qM z3 y13] .ret),[(z3,none)]⟩
theorem ok175 : FnR Tryz.prog 0 175 cf175 := fnC_ok [] Tryz.func175 (by kernel_rfl) (by kernel_rfl)
def cf180 : CF := ⟨36,1,qR [qO z1 (.new 123 y0),qO z2 (.new 170 (.c (.a [.s [],.s []])))] (qR [qO z3 (.new 183 (.c (.a [.p none,.sl none 0 0 0])))] (.seq (qR [qF z8 2 y1,qL z9 y8,qO z10 (.len true y9),qM z11
 (qI 0)] (.blk 0 (.loop (qR [qO z12 (.bin .lss y11 y10)] (.seq (.cond y12 .skip (.exit 0)) (.seq (.blk 1 (qR [qO z13 (.ia 2 y9 y11),qO z14 (.ld 2 true y13),qO z5 (.new 79 (.c (.a [.s [],.s []]))),
 qE (.st 2 y5 y14)] (qR [qF z15 0 y5,qL z16 y15,qF z17 1 y5,qL z18 y17,qO z19 (.bld [.s [],.s []] [(0,(1,y16)),(1,(1,y18))]),qM z20 (qI 0)] (.blk 2 (.loop (qR [qO z21 (.bin .lss y20 (qI
 2))] (.seq (.cond y21 .skip (.exit 2)) (.seq (.blk 3 (qR [qO z22 (.ix 2 1 false y19 y20),qM z7 y22] (qR [qO z24 (.len false y7),qC z25 190 [y24],qC z26 189 [y3,y25]] (qR [qC z27 191 [y3,.c (.c
 (.i .u8 (.ofNat 58)))]] (.reg [qC z29 189 [y3,y7]]))))) (.reg [qO z30 (.bin .add y20 (qI 1)),qM z20 y30]))))))))) (.reg [qO z31 (.bin .add y11 (qI 1)),qM z11 y31]))))))) (.seq (.dreg [qF z32 1 y1,
 qL z33 y32,⟨some z34,none,.call 192 [y3],[⟨some z33,none,.ld 1 false y32⟩]⟩,qO z35 (.bld [.s [],.s []] [(0,(1,y33)),(1,(1,y34))]),qE (.st 2 y2 y35)]) .ret))),[(z2,some ((2,true)))]⟩
theorem ok180 : FnR Tryz.prog 0 180 cf180 := fnC_ok [23,28] Tryz.func180 (by kernel_rfl) (by kernel_rfl)
def cf192 : CF := ⟨14,1,qR [qM z2 (qS [])] (.seq (.dreg [qM z3 y0,qN z4 y3,qF z5 1 y4,qL z6 y5,qO z7 (.usd y6),qM z8 y0,qN z9 y8,qF z10 1 y9,qL z11 y10,qO z12 (.len true y11),qO z13 (.ustr y7 y12),qM z2
 y13]) .ret),[(z2,none)]⟩
theorem ok192 : FnR Tryz.prog 0 192 cf192 := fnC_ok [] Tryz.func192 (by kernel_rfl) (by kernel_rfl)
end
end Ev
end
section
namespace Ev
variable [Tx]
set_option autoImplicit false
noncomputable section
def ftb : FT := (.node 83 cf83 (.node 46 cf46 (.node 30 cf30 (.node 21 cf21 (.node 16 cf16 (.node 11 cf11 (.node 10 cf10 .nil .nil) .nil) (.node 20 cf20 (.node 19 cf19 .nil .nil) .nil)) (.node 28 cf28 (.node 23 cf23
 (.node 22 cf22 .nil .nil) .nil) (.node 29 cf29 .nil .nil))) (.node 38 cf38 (.node 34 cf34 (.node 33 cf33 (.node 31 cf31 .nil .nil) .nil) (.node 37 cf37 (.node 35 cf35 .nil .nil) .nil)) (.node 41 cf41
 (.node 40 cf40 (.node 39 cf39 .nil .nil) .nil) (.node 45 cf45 .nil .nil)))) (.node 62 cf62 (.node 57 cf57 (.node 50 cf50 (.node 49 cf49 (.node 48 cf48 .nil .nil) .nil) (.node 52 cf52 (.node 51 cf51
 .nil .nil) .nil)) (.node 60 cf60 (.node 59 cf59 (.node 58 cf58 .nil .nil) .nil) (.node 61 cf61 .nil .nil))) (.node 75 cf75 (.node 65 cf65 (.node 64 cf64 (.node 63 cf63 .nil .nil) .nil) (.node 67 cf67
 (.node 66 cf66 .nil .nil) .nil)) (.node 81 cf81 (.node 79 cf79 (.node 76 cf76 .nil .nil) .nil) (.node 82 cf82 .nil .nil))))) (.node 130 cf130 (.node 106 cf106 (.node 96 cf96 (.node 92 cf92 (.node 91
 cf91 (.node 90 cf90 .nil .nil) .nil) (.node 95 cf95 (.node 94 cf94 .nil .nil) .nil)) (.node 100 cf100 (.node 99 cf99 (.node 98 cf98 .nil .nil) .nil) (.node 101 cf101 .nil .nil))) (.node 123 cf123
 (.node 115 cf115 (.node 114 cf114 (.node 109 cf109 .nil .nil) .nil) (.node 117 cf117 (.node 116 cf116 .nil .nil) .nil)) (.node 127 cf127 (.node 126 cf126 (.node 125 cf125 .nil .nil) .nil) (.node 129
 cf129 .nil .nil)))) (.node 144 cf144 (.node 137 cf137 (.node 134 cf134 (.node 132 cf132 (.node 131 cf131 .nil .nil) .nil) (.node 136 cf136 (.node 135 cf135 .nil .nil) .nil)) (.node 140 cf140 (.node
 139 cf139 (.node 138 cf138 .nil .nil) .nil) (.node 142 cf142 .nil .nil))) (.node 166 cf166 (.node 158 cf158 (.node 156 cf156 (.node 145 cf145 .nil .nil) .nil) (.node 159 cf159 .nil .nil)) (.node 180
 cf180 (.node 175 cf175 (.node 174 cf174 .nil .nil) .nil) (.node 192 cf192 .nil .nil))))))
theorem ftb_ok : ftb.Ok (FnR Tryz.prog 0) := (.node ok83 (.node ok46 (.node ok30 (.node ok21 (.node ok16 (.node ok11 (.node ok10 .nil .nil) .nil) (.node ok20 (.node ok19 .nil .nil) .nil)) (.node ok28 (.node ok23 (.node ok22 .nil .nil) .nil)
 (.node ok29 .nil .nil))) (.node ok38 (.node ok34 (.node ok33 (.node ok31 .nil .nil) .nil) (.node ok37 (.node ok35 .nil .nil) .nil)) (.node ok41 (.node ok40 (.node ok39 .nil .nil) .nil) (.node ok45
 .nil .nil)))) (.node ok62 (.node ok57 (.node ok50 (.node ok49 (.node ok48 .nil .nil) .nil) (.node ok52 (.node ok51 .nil .nil) .nil)) (.node ok60 (.node ok59 (.node ok58 .nil .nil) .nil) (.node ok61
 .nil .nil))) (.node ok75 (.node ok65 (.node ok64 (.node ok63 .nil .nil) .nil) (.node ok67 (.node ok66 .nil .nil) .nil)) (.node ok81 (.node ok79 (.node ok76 .nil .nil) .nil) (.node ok82 .nil .nil)))))
 (.node ok130 (.node ok106 (.node ok96 (.node ok92 (.node ok91 (.node ok90 .nil .nil) .nil) (.node ok95 (.node ok94 .nil .nil) .nil)) (.node ok100 (.node ok99 (.node ok98 .nil .nil) .nil) (.node ok101
 .nil .nil))) (.node ok123 (.node ok115 (.node ok114 (.node ok109 .nil .nil) .nil) (.node ok117 (.node ok116 .nil .nil) .nil)) (.node ok127 (.node ok126 (.node ok125 .nil .nil) .nil) (.node ok129 .nil
 .nil)))) (.node ok144 (.node ok137 (.node ok134 (.node ok132 (.node ok131 .nil .nil) .nil) (.node ok136 (.node ok135 .nil .nil) .nil)) (.node ok140 (.node ok139 (.node ok138 .nil .nil) .nil) (.node
 ok142 .nil .nil))) (.node ok166 (.node ok158 (.node ok156 (.node ok145 .nil .nil) .nil) (.node ok159 .nil .nil)) (.node ok180 (.node ok175 (.node ok174 .nil .nil) .nil) (.node ok192 .nil .nil))))))
end
end Ev
end
section
inductive Pc where
 |s (nm : Str)
 |e (nm : Str)
 |t (x : Str)
namespace Pc
def src : Pc → Str
 |.s nm => 60 :: (nm ++ [62])
 |.e nm => 60 :: 47 :: (nm ++ [62])
 |.t x => x
def kind : Pc → Int
 |.s _ => 1
 |.e _ => 2
 |.t _ => 3
def name : Pc → Str
 |.s nm => nm
 |.e nm => nm
 |.t _ => []
def text : Pc → Str
 |.t x => x
 |_ => []
end Pc
def blankB (c : UInt8) : Bool := (((decide ((c.toNat : Int) = 9)) || (decide ((c.toNat : Int) = 10))) || (decide ((c.toNat : Int) = 12))) || (decide ((c.toNat : Int) = 32))
def letterB (c : UInt8) : Bool := ((decide (97 ≤ (c.toNat : Int))) && (decide ((c.toNat : Int) ≤ 122))) || ((decide (65 ≤ (c.toNat : Int))) && (decide ((c.toNat : Int) ≤ 90)))
def goodB (c : UInt8) : Bool := decide (33 ≤ c.toNat) && decide (c.toNat ≤ 126) && decide (c.toNat ≠ 38) && decide (c.toNat ≠ 47) && decide (c.toNat ≠ 60) && decide (c.toNat ≠ 62)
theorem good_iff {c : UInt8} (h : goodB c = true) : 33 ≤ c.toNat ∧ c.toNat ≤ 126 ∧ c.toNat ≠ 38 ∧ c.toNat ≠ 47 ∧ c.toNat ≠ 60 ∧ c.toNat ≠ 62 := by
 simpa [goodB,and_assoc] using h
theorem good_blank {c : UInt8} (h : goodB c = true) : blankB c = false := by
 obtain ⟨h1,_⟩ := good_iff h
 simp only [blankB,Bool.or_eq_false_iff,decide_eq_false_iff_not]
 omega
theorem drop_head {s r : Str} {k : Nat} {c : UInt8} (h : s.drop k = c :: r) : k < s.length ∧ s.getD k 0 = c ∧ s.drop (k + 1) = r := by
 have hlt : k < s.length := by
  rcases Nat.lt_or_ge k s.length with h' | h'
  ·exact h'
  ·rw [List.drop_eq_nil_of_le h'] at h; cases h
 have h2 := List.drop_eq_getElem_cons hlt
 rw [h] at h2
 injection h2 with h3 h4
 refine ⟨hlt,?_,h4.symm⟩
 rw [List.getD_eq_getElem?_getD,List.getElem?_eq_getElem hlt,h3]; rfl
theorem drop_app {s l r : Str} {k : Nat} (h : s.drop k = l ++ r) : s.drop (k + l.length) = r ∧ (s.drop k).take l.length = l := by
 constructor
 ·rw [← List.drop_drop,h]; simp
 ·rw [h]; simp
theorem drop_len {s r : Str} {k : Nat} (h : s.drop k = r) (hk : k ≤ s.length) : k + r.length = s.length := by
 rw [← h,List.length_drop]; omega
theorem dropsAt {s l r : Str} {k j : Nat} (h : s.drop k = l ++ r) (hj : j < l.length) : s.drop (k + j) = l[j] :: (l.drop (j + 1) ++ r) := by
 rw [← List.drop_drop,h,List.drop_append_of_le_length (by omega),List.drop_eq_getElem_cons hj]; rfl
end
section
open Go.RowKit
theorem blankC {w : World} (c : UInt8) : Calls Tryz.prog 79 #[.int .u8 (c.toNat : Int)] w (Ret fun v w' => Ext w w' ∧ v = .bool (blankB c)) := by
 refine ref04_Blank.ok _ ?_
 unfold ref04_Blank.vc
 exact ⟨Chg.refl _ _,rfl⟩
theorem letterC {w : World} (c : UInt8) : Calls Tryz.prog 81 #[.int .u8 (c.toNat : Int)] w (Ret fun v w' => Ext w w' ∧ v = .bool (letterB c)) := by
 refine ref04_Letter.ok _ ?_
 unfold ref04_Letter.vc
 exact ⟨Chg.refl _ _,rfl⟩
theorem letterAt {w : World} {s r : Str} {k : Nat} {c : UInt8} (h : s.drop k = c :: r) : Calls Tryz.prog 50 #[.string (Bs s),.int .i64 (k : Int)] w (Ret fun v w' => Ext w w' ∧ v = .bool (letterB c)) := by
 obtain ⟨h1,h2,_⟩ := drop_head h
 refine ref10_letter.ok _ _ ?_
 unfold ref10_letter.vc
 refine ⟨fun _ => ⟨by omega,by omega⟩,letterB c,fun _ => ?_,fun w1 hE => ⟨hE,?_⟩⟩
 ·rw [Int.toNat_natCast,h2]; exact letterC c
 ·rw [decide_eq_true (by omega : (k : Int) < (s.length : Int))]; rfl
theorem uptoC {w : World} {s nm r : Str} {k : Nat} (h : s.drop k = nm ++ 62 :: r) (hg : ∀ c ∈ nm,goodB c = true) (hl : s.length ≤ 1000000) :
  Calls Tryz.prog 82 #[.string (Bs s),.int .i64 (k : Int),.string (Bs ([47,62] : Str))] w (Ret fun v w' => Ext w w' ∧ v = .int .i64 ((k + nm.length : Nat) : Int)) := by
 refine ref10_upto.ok _ _ _ ?_
 unfold ref10_upto.vc
 have hend := drop_head (drop_app h).1
 -- the sign at a place
 have sign : ∀ j,j ≤ nm.length → k + j < s.length ∧ blankB (s.getD (k + j) 0) = false ∧ (j < nm.length → goodB (s.getD (k + j) 0) = true) ∧ (j = nm.length → s.getD (k + j) 0 = 62) := fun j hj => by
  rcases Nat.lt_or_ge j nm.length with h1 | h1
  ·obtain ⟨g1,g2,_⟩ := drop_head (dropsAt h h1)
   have hgood := hg _ (List.getElem_mem h1)
   exact ⟨g1,by rw [g2]; exact good_blank hgood,fun _ => by rw [g2]; exact hgood,fun e => by omega⟩
  ·have e : j = nm.length := by omega
   subst e
   exact ⟨hend.1,by rw [hend.2.1]; decide,fun h => by omega,fun _ => hend.2.1⟩
 refine ⟨fun a w1 => ∃ j : Nat,a = ((k + j : Nat) : Int) ∧ j ≤ nm.length ∧ Ext w w1,fun a _ => s.length - a.toNat,⟨0,rfl,Nat.zero_le _,Chg.refl _ _⟩,?_⟩
 rintro _ w1 ⟨j,rfl,hj,hE⟩
 obtain ⟨h1,h2,h3,h4⟩ := sign j hj
 rw [Int.toNat_natCast]
 refine ⟨fun _ => ⟨by omega,by omega⟩,false,fun _ => ?_,fun w2 hE2 => ⟨fun _ => ?_,fun h => ?_⟩⟩
 ·have := blankC (w := w1) (s.getD (k + j) 0)
  rw [h2] at this; exact this
 ·refine ⟨fun i w3 => (i = 0 ∨ i = 1 ∨ (i = 2 ∧ j < nm.length)) ∧ Ext w w3,fun i _ => (2 - i).toNat,⟨.inl rfl,hE.trans hE2⟩,?_⟩
  rintro i w3 ⟨hi,hE3⟩
  have hlen : ((([47,62] : Str)).length : Int) = 2 := rfl
  refine ⟨fun hi2 w4 hE4 => ⟨⟨by omega,by omega⟩,⟨by omega,hi2⟩,fun he w5 hE5 => ⟨((hE3.trans hE4).trans hE5),?_⟩,fun he => ⟨⟨by omega,by omega⟩,fun w5 hE5 => ⟨⟨?_,(hE3.trans hE4).trans hE5⟩,?_⟩⟩⟩,fun hi2 => ⟨⟨by omega,by omega⟩,⟨j + 1,by omega,?_,hE3⟩,?_⟩⟩
  ·rcases Nat.lt_or_ge j nm.length with hlt | hge
   ·obtain ⟨g1,g2,g3,g4,g5,g6⟩ := good_iff (h3 hlt)
    rcases hi with rfl | rfl | ⟨rfl,_⟩
    ·exact absurd he (by simp only [Int.toNat_zero]; intro e; have : (s.getD (k + j) 0).toNat = 47 := (by exact_mod_cast e); omega)
    ·exact absurd he (by intro e; have : (s.getD (k + j) 0).toNat = 62 := (by exact_mod_cast e); omega)
    ·omega
   ·rw [show j = nm.length by omega]
  ·rcases hi with rfl | rfl | ⟨rfl,_⟩
   ·exact .inr (.inl rfl)
   ·refine .inr (.inr ⟨rfl,?_⟩)
    rcases Nat.lt_or_ge j nm.length with hlt | hge
    ·exact hlt
    ·exact absurd (h4 (by omega)) (fun e => he (by rw [e]; rfl))
   ·omega
  ·dsimp only; omega
  ·rcases hi with rfl | rfl | ⟨rfl,h⟩
   ·omega
   ·omega
   ·omega
  ·have hj' : j < nm.length := by
    rcases hi with rfl | rfl | ⟨rfl,h⟩
    ·omega
    ·omega
    ·exact h
   dsimp only; omega
 ·rcases h with h | h
  ·omega
  ·cases h
theorem tagC {w : World} {s nm r : Str} {k : Nat} {kind : Int} {Q : World → Prop} (hq : Q w) (hQ : ∀ {a b : World},Q a → Ext a b → Q b) (h : s.drop k = nm ++ 62 :: r) (hg : ∀ c ∈ nm,goodB c = true) (hl : s.length ≤ 1000000)
  (hn : ∀ w : World,Q w → Calls Tryz.prog 83 #[.string (Bs nm)] w (Ret fun v w' => Ext w w' ∧ v = .string (Bs nm))) :
  Calls Tryz.prog 51 #[.string (Bs s),.int .i64 (k : Int),.int .i64 kind] w (Ret fun v w' => Ext w w' ∧ v = .tuple #[.agg #[.int .i64 kind,.string (Bs nm),.string (Bs ([] : Str)),Sl.v Sl.nil,.bool false],.int .i64 ((k + nm.length + 1 : Nat) : Int),.bool true]) := by
 refine ref10_tag.ok _ _ _ ?_
 unfold ref10_tag.vc
 obtain ⟨e1,e2,_⟩ := drop_head (drop_app h).1
 have e3 := (drop_app h).2
 intro w1 B4 hN4 hE1
 refine CallK.exact (uptoC h hg hl) fun w2 hE2 => ⟨_,rfl,⟨by omega,by omega,by omega⟩,?_⟩
 rw [Int.toNat_natCast,Int.toNat_natCast,show k + nm.length - k = nm.length by omega,e3]
 refine CallK.exact (hn _ (hQ hq (hE1.trans hE2))) fun w3 hE3 => ⟨_,rfl,?_⟩
 intro w4 B12 hN12 hE4
 have hE : Ext w w4 := ((hE1.trans hE2).trans hE3).trans hE4
 have hB4 : w.heap.size ≤ B4 := hN4.ge
 have hB12 : w.heap.size ≤ B12 := Nat.le_trans ((hE1.trans hE2).trans hE3).size hN12.ge
 refine ⟨fun a c w5 => a = ((k + nm.length : Nat) : Int) ∧ c = Sl.nil ∧ Ext w w5,fun _ _ _ => 0,⟨rfl,rfl,hE⟩,?_⟩
 rintro _ _ w5 ⟨rfl,rfl,hE5⟩
 refine ⟨fun a w6 => a = ((k + nm.length : Nat) : Int) ∧ Ext w w6,fun _ _ => 0,⟨rfl,hE5⟩,?_⟩
 rintro _ w6 ⟨rfl,hE6⟩
 rw [Int.toNat_natCast,e2]
 have h62 : ((62 : UInt8).toNat : Int) = 62 := rfl
 refine ⟨fun _ => ⟨by omega,by omega⟩,false,fun _ => blankC 62,fun w7 hE7 => ⟨fun _ => ⟨by omega,by omega⟩,fun hx => ?_,fun _ => ⟨fun hx => by omega,fun _ => ⟨⟨by omega,by omega⟩,fun _ => ?_,fun hx => absurd h62 hx⟩⟩⟩⟩
 ·rcases hx.2 with hx | hx
  ·cases hx
  ·rw [h62] at hx; omega
 ·refine ⟨fun c w8 => c = Sl.nil ∧ Ext w w8,⟨fun _ w8 hC => ⟨rfl,Chg.fresh (hE6.trans hE7) hC (by simpa using hB12)⟩,fun _ => ⟨rfl,hE6.trans hE7⟩⟩,?_⟩
  rintro _ w8 ⟨rfl,hE8⟩
  refine ⟨⟨by omega,by omega⟩,fun w9 hC => ⟨Chg.fresh hE8 hC (by simpa using hB4),?_⟩⟩
  rw [show (((k + nm.length : Nat) : Int) + 1) = ((k + nm.length + 1 : Nat) : Int) by omega]
theorem decodeC {w : World} {x : Str} (hg : ∀ c ∈ x,goodB c = true) (hl : x.length ≤ 1000000) :
  Calls Tryz.prog 48 #[.string (Bs x),.bool false] w (Ret fun v w' => Ext w w' ∧ v = .string (Bs x)) := by
 refine ref09_Decode.ok _ _ ?_
 unfold ref09_Decode.vc
 refine ⟨fun t a w1 => ∃ j : Nat,a = (j : Int) ∧ j ≤ x.length ∧ t = x.take j ∧ Ext w w1,fun _ a _ => x.length - a.toNat,⟨0,rfl,Nat.zero_le _,rfl,Chg.refl _ _⟩,?_⟩
 rintro _ _ w1 ⟨j,rfl,hj,rfl,hE⟩
 rw [Int.toNat_natCast]
 refine ⟨fun hlt => ?_,fun hge => ⟨hE,by rw [show j = x.length by omega,List.take_length]⟩⟩
 have hj' : j < x.length := by omega
 have hc : x.getD j 0 = x[j] := by rw [List.getD_eq_getElem?_getD,List.getElem?_eq_getElem hj']; rfl
 obtain ⟨_,_,h38,_⟩ := good_iff (hg _ (List.getElem_mem hj'))
 have e : x.take j ++ (x.drop j).take (((j : Int) + 1).toNat - j) = x.take (j + 1) := by
  rw [show ((j : Int) + 1).toNat - j = 1 by omega,List.take_add]
 refine ⟨⟨by omega,hlt⟩,fun h => ?_,fun _ => ⟨⟨by omega,by omega⟩,⟨by omega,by omega,by omega⟩,?_,⟨by omega,by omega⟩,⟨j + 1,by omega,by omega,e,hE⟩,?_⟩⟩
 ·rw [hc] at h
  exact absurd (by exact_mod_cast h) h38
 ·simp only [List.length_take,List.length_drop]; omega
 ·dsimp only; omega
theorem textC {w : World} {s x r : Str} {k : Nat} (h : s.drop k = x ++ r) (hk : k ≤ s.length) (hx : x ≠ []) (hg : ∀ c ∈ x,goodB c = true) (hr : r = [] ∨ ∃ q,r = 60 :: q) (hl : s.length ≤ 1000000) :
  Calls Tryz.prog 49 #[.string (Bs s),.int .i64 (k : Int)] w (Ret fun v w' => Ext w w' ∧ v = .tuple #[.agg #[.int .i64 3,.string (Bs ([] : Str)),.string (Bs x),Sl.v Sl.nil,.bool false],.int .i64 ((k + x.length : Nat) : Int),.bool true]) := by
 refine ref10_text.ok _ _ ?_
 unfold ref10_text.vc
 have hlen := drop_len h hk
 rw [List.length_append] at hlen
 have hx0 : 0 < x.length := by cases x with
  |nil => exact absurd rfl hx
  |cons a b => simp
 have good : ∀ j,j < x.length → goodB (s.getD (k + j) 0) = true := fun j hj => by
  obtain ⟨_,g2,_⟩ := drop_head (dropsAt h hj)
  rw [g2]; exact hg _ (List.getElem_mem hj)
 have g0 := good_blank (good 0 hx0)
 rw [Nat.add_zero] at g0
 intro w1 B3 hN hE1
 have hB3 := hN.ge
 refine ⟨fun a w2 => ∃ j : Nat,a = ((k + j : Nat) : Int) ∧ j ≤ x.length ∧ Ext w w2,fun a _ => s.length - a.toNat,⟨0,rfl,Nat.zero_le _,hE1⟩,?_⟩
 rintro _ w2 ⟨j,rfl,hj,hE2⟩
 rw [Int.toNat_natCast,Int.toNat_natCast]
 intro w3 hE3
 refine ⟨fun h => ⟨by omega,h⟩,fun h => ⟨by omega,h.1⟩,blankB (s.getD (k + j) 0),fun _ w' hw' => blankC _,fun h => ⟨by omega,by omega⟩,blankB (s.getD k 0),fun _ w' hw' => blankC _,fun hc => ⟨⟨by omega,by omega⟩,fun w4 hE4 => ⟨⟨j + 1,by omega,?_,(hE2.trans hE3).trans hE4⟩,?_⟩⟩,fun hc => ?_⟩
 ·rcases Nat.lt_or_ge j x.length with hlt | hge
  ·omega
  ·exfalso
   have e : j = x.length := by omega
   subst e
   rcases hr with rfl | ⟨q,rfl⟩
   ·have := hc.1.1; simp at hlen; omega
   ·obtain ⟨_,g2,_⟩ := drop_head (drop_app h).1
    have h60 := hc.1.2
    rw [g2] at h60; exact h60 rfl
 ·have := hc.1.1; dsimp only; omega
 ·have e : j = x.length := by
   rcases Nat.lt_or_ge j x.length with hlt | hge
   ·exfalso
    obtain ⟨_,_,_,_,g5,_⟩ := good_iff (good j hlt)
    rcases hc with (hc | hc) | hc
    ·omega
    ·exact hc (fun e => g5 (by exact_mod_cast e))
    ·rw [good_blank (good j hlt),g0] at hc; cases hc
   ·omega
  subst e
  refine ⟨⟨by omega,by omega,by omega⟩,fun w4 hE4 => ?_⟩
  rw [show k + x.length - k = x.length by omega,(drop_app h).2]
  refine CallK.exact (decodeC hg (by omega)) fun w5 hE5 => ⟨_,rfl,fun w6 hC => ⟨Chg.fresh ((((hE2.trans hE3).trans hE4)).trans hE5) hC (by simpa using hB3),rfl⟩⟩
theorem hasEnd {w : World} {s r : Str} {k : Nat} {Q : World → Prop} (hq : Q w) (h : s.drop k = 60 :: 47 :: r) (hl : s.length ≤ 1000000)
  (hlow : ∀ w : World,Q w → Calls Tryz.prog 46 #[.string (Bs ([60,47] : Str))] w (Ret fun v w' => Ext w w' ∧ v = .string (Bs ([60,47] : Str)))) :
  Calls Tryz.prog 52 #[.string (Bs s),.int .i64 (k : Int),.string (Bs ([60,47] : Str))] w (Ret fun v w' => Ext w w' ∧ v = .bool true) := by
 refine ref10_has.ok _ _ _ ?_
 unfold ref10_has.vc
 have h1 := drop_head h
 have h2 := drop_head h1.2.2
 have hlen : ((([60,47] : Str)).length : Int) = 2 := rfl
 refine ⟨fun _ => ⟨by omega,by omega⟩,fun _ => ⟨by omega,by omega⟩,fun _ => ⟨by omega,by omega,by omega⟩,[60,47],fun _ => ?_,fun w1 hE => ⟨hE,?_⟩⟩
 ·have e : (s.drop (k : Int).toNat).take (((k : Int) + ((([60,47] : Str)).length : Int)).toNat - (k : Int).toNat) = [60,47] := by
   rw [hlen,show ((k : Int) + 2).toNat - (k : Int).toNat = 2 by omega,Int.toNat_natCast,h]; rfl
  rw [e]; exact hlow w hq
 ·rw [decide_eq_true (show (0 : Int) ≤ (k : Int) by omega),decide_eq_true (show ((([60,47] : Str)).length : Int) ≤ (s.length : Int) - (k : Int) by omega),decide_eq_true rfl]; rfl
structure Pc.Ok (p : Pc) : Prop where
 good : ∀ c ∈ p.name ++ p.text,goodB c = true
 first : ∀ nm,p = .s nm ∨ p = .e nm → ∃ c r,nm = c :: r ∧ letterB c = true
 word : ∀ x,p = .t x → x ≠ []
theorem nextC {w : World} {s r : Str} {k : Nat} {p : Pc} {Q : World → Prop} (hq : Q w) (hQ : ∀ {a b : World},Q a → Ext a b → Q b) (h : s.drop k = p.src ++ r) (hk : k ≤ s.length) (hp : p.Ok) (hr : ∀ x,p = .t x → r = [] ∨ ∃ q,r = 60 :: q) (hl : s.length ≤ 1000000)
  (hn : (∀ x,p ≠ .t x) → ∀ w : World,Q w → Calls Tryz.prog 83 #[.string (Bs p.name)] w (Ret fun v w' => Ext w w' ∧ v = .string (Bs p.name)))
  (hlow : ∀ w : World,Q w → Calls Tryz.prog 46 #[.string (Bs ([60,47] : Str))] w (Ret fun v w' => Ext w w' ∧ v = .string (Bs ([60,47] : Str)))) :
  Calls Tryz.prog 29 #[.string (Bs s),.int .i64 (k : Int),.string (Bs ([] : Str))] w (Ret fun v w' => Ext w w' ∧ v = .tuple #[.agg #[.int .i64 p.kind,.string (Bs p.name),.string (Bs p.text),Sl.v Sl.nil,.bool false],.int .i64 ((k + p.src.length : Nat) : Int),.bool true]) := by
 refine ref10_Next.ok _ _ _ ?_
 unfold ref10_Next.vc
 have hlt : k < s.length := by
  have hlen := drop_len h hk
  have : 0 < p.src.length := by
   cases p with
   |s nm => simp [Pc.src]
   |e nm => simp [Pc.src]
   |t x => cases x with
    |nil => exact absurd rfl (hp.word _ rfl)
    |cons a b => simp [Pc.src]
  rw [List.length_append] at hlen; omega
 refine ⟨fun hx => by omega,fun _ w1 B4 hN hE1 => ?_⟩
 have hB4 := hN.ge
 refine ⟨fun w2 => Ext w w2,⟨fun hx => absurd rfl hx,fun _ => hE1⟩,fun w2 hE2 => ⟨⟨by omega,by omega⟩,fun hx => ?_,fun hx => ?_⟩⟩
 ·rw [Int.toNat_natCast] at hx
  cases p with
  |s nm => exact absurd (by rw [(drop_head h).2.1]; rfl) hx
  |e nm => exact absurd (by rw [(drop_head h).2.1]; rfl) hx
  |t x =>
   refine CallK.exact (textC h hk (hp.word _ rfl) (fun c hc => hp.good c (by simp only [Pc.name,Pc.text,List.nil_append]; exact hc)) (hr _ rfl) hl) fun w3 hE3 => ⟨_,_,_,_,_,_,_,rfl,fun w4 hC => ⟨Chg.fresh (hE2.trans hE3) hC (by simpa using hB4),rfl⟩⟩
 ·rw [Int.toNat_natCast] at hx
  refine ⟨⟨by omega,by omega⟩,?_⟩
  cases p with
  |t x =>
   obtain ⟨c,q,rfl⟩ : ∃ c q,x = c :: q := by
    cases x with
    |nil => exact absurd rfl (hp.word _ rfl)
    |cons c q => exact ⟨c,q,rfl⟩
   obtain ⟨_,_,_,_,g5,_⟩ := good_iff (hp.good c (by simp [Pc.name,Pc.text]))
   rw [(drop_head h).2.1] at hx
   exact absurd (fun e => g5 (by exact_mod_cast e)) hx
  |s nm =>
   obtain ⟨c,q,rfl,hc⟩ := hp.first nm (.inl rfl)
   have h1 := (drop_head h).2.2
   have h1' : s.drop (k + 1) = (c :: q) ++ 62 :: r := by rw [h1]; simp
   rw [show ((k : Int) + 1) = ((k + 1 : Nat) : Int) by omega]
   refine CallK.exact (letterAt (c := c) h1') fun w3 hE3 => ⟨_,rfl,fun _ => ⟨⟨by omega,by omega⟩,?_⟩,fun hx => by rw [hc] at hx; cases hx⟩
   refine CallK.exact (tagC (hQ hq (hE2.trans hE3)) hQ h1' (fun c' hc' => hp.good c' (by simp only [Pc.name,Pc.text,List.append_nil]; exact hc')) hl (hn fun x h => by cases h)) fun w4 hE4 => ⟨_,_,_,_,_,_,_,rfl,fun w5 hC => ⟨Chg.fresh ((hE2.trans hE3).trans hE4) hC (by simpa using hB4),?_⟩⟩
   simp only [Pc.kind,Pc.name,Pc.text,Pc.src,List.length_cons,List.length_append,List.length_nil]
   rw [show k + 1 + (q.length + 1) + 1 = k + (q.length + 1 + (0 + 1) + 1) by omega]
  |e nm =>
   obtain ⟨c,q,rfl,hc⟩ := hp.first nm (.inr rfl)
   have h0 : s.drop k = 60 :: 47 :: ((c :: q) ++ 62 :: r) := by rw [h]; simp [Pc.src]
   have h1 := (drop_head h0).2.2
   have h2 := (drop_head h1).2.2
   rw [show ((k : Int) + 1) = ((k + 1 : Nat) : Int) by omega]
   refine CallK.exact (letterAt h1) fun w3 hE3 => ⟨_,rfl,fun hx => absurd hx (by decide),fun _ => ?_⟩
   refine CallK.exact (hasEnd (hQ hq (hE2.trans hE3)) h0 hl hlow) fun w4 hE4 => ⟨_,rfl,fun _ => ⟨by omega,by omega⟩,true,fun _ => ?_,fun w5 hE5 => ⟨fun _ => ⟨⟨by omega,by omega⟩,?_⟩,fun hx => ?_⟩⟩
   ·rw [show ((k : Int) + 2) = ((k + 1 + 1 : Nat) : Int) by omega,← hc]; exact letterAt h2
   ·rw [show ((k : Int) + 2) = ((k + 1 + 1 : Nat) : Int) by omega]
    refine CallK.exact (tagC (hQ hq (((hE2.trans hE3).trans hE4).trans hE5)) hQ h2 (fun c' hc' => hp.good c' (by simp only [Pc.name,Pc.text,List.append_nil]; exact hc')) hl (hn fun x h => by cases h)) fun w6 hE6 => ⟨_,_,_,_,_,_,_,rfl,fun w7 hC => ⟨Chg.fresh ((((hE2.trans hE3).trans hE4).trans hE5).trans hE6) hC (by simpa using hB4),?_⟩⟩
    simp only [Pc.kind,Pc.name,Pc.text,Pc.src,List.length_cons,List.length_append,List.length_nil]
    rw [show k + 1 + 1 + (q.length + 1) + 1 = k + (q.length + 1 + (0 + 1) + 1 + 1) by omega]
   ·rcases hx with hx | hx <;> cases hx
end
section
open Go.RowKit
def srcs (ps : List Pc) : Str := (ps.map Pc.src).flatten
def Sep : List Pc → Prop
 |[] => True
 |p :: r => (∀ x,p = .t x → r = [] ∨ ∃ q r',r = q :: r' ∧ ∀ y,q ≠ .t y) ∧ Sep r
def tkc (p : Pc) : List Value := [.int .i64 p.kind,.string (Bs p.name),.string (Bs p.text),Sl.v Sl.nil,.bool false]
def tkc0 : List Value := [.int .i64 6,.string (Bs ([] : Str)),.string (Bs ([] : Str)),Sl.v Sl.nil,.bool false]
theorem srcs_cons (p : Pc) (ps : List Pc) : srcs (p :: ps) = p.src ++ srcs ps := rfl
theorem src_sign {p : Pc} (hp : p.Ok) : ∀ c ∈ p.src,33 ≤ c.toNat ∧ c.toNat ≤ 126 := by
 have g : ∀ c,goodB c = true → 33 ≤ c.toNat ∧ c.toNat ≤ 126 := fun c h => ⟨(good_iff h).1,(good_iff h).2.1⟩
 intro c hc
 cases p with
 |s nm =>
  simp only [Pc.src,List.mem_cons,List.mem_append,List.not_mem_nil,or_false] at hc
  rcases hc with rfl | hc | rfl
  ·decide
  ·exact g c (hp.good c (by simp [Pc.name,hc]))
  ·decide
 |e nm =>
  simp only [Pc.src,List.mem_cons,List.mem_append,List.not_mem_nil,or_false] at hc
  rcases hc with rfl | rfl | hc | rfl
  ·decide
  ·decide
  ·exact g c (hp.good c (by simp [Pc.name,hc]))
  ·decide
 |t x => exact g c (hp.good c (by simp [Pc.name,Pc.text]; exact hc))
theorem runeC {w : World} {s : Str} {k : Nat} (hk : k < s.length) (hc : (s.getD k 0).toNat < 128) : Calls Tryz.prog 45 #[.string (Bs s),.int .i64 (k : Int)] w (Ret fun v w' => Ext w w' ∧ v = .tuple #[.int .i32 (IntKind.i32.wrap ((s.getD k 0).toNat : Int)),.int .i64 1]) := by
 refine ref04_Next.ok _ _ ?_
 unfold ref04_Next.vc
 rw [Int.toNat_natCast]
 refine ⟨⟨by omega,by omega⟩,⟨by omega,by omega⟩,fun _ _ _ _ => False,⟨fun _ => ⟨Chg.refl _ _,rfl⟩,fun h => absurd (by exact_mod_cast hc) h⟩,fun _ _ _ _ h => h.elim⟩
theorem cleanC {w : World} {s : Str} (hs : ∀ c ∈ s,33 ≤ c.toNat ∧ c.toNat ≤ 126) (hl : s.length ≤ 1000000) : Calls Tryz.prog 28 #[.string (Bs s)] w (Ret fun v w' => Ext w w' ∧ v = .string (Bs s)) := by
 refine ref04_Clean.ok _ ?_
 unfold ref04_Clean.vc
 refine ⟨fun t a w1 => ∃ j : Nat,a = (j : Int) ∧ j ≤ s.length ∧ t = s.take j ∧ Ext w w1,fun _ a _ => s.length - a.toNat,⟨0,rfl,Nat.zero_le _,rfl,Chg.refl _ _⟩,?_⟩
 rintro _ _ w1 ⟨j,rfl,hj,rfl,hE⟩
 rw [Int.toNat_natCast]
 refine ⟨fun hlt => ?_,fun hge => ⟨hE,by rw [show j = s.length by omega,List.take_length]⟩⟩
 have hj' : j < s.length := by omega
 have hc : s.getD j 0 = s[j] := by rw [List.getD_eq_getElem?_getD,List.getElem?_eq_getElem hj']; rfl
 obtain ⟨h1,h2⟩ := hs _ (List.getElem_mem hj')
 rw [← hc] at h1 h2
 have e : s.take j ++ (s.drop j).take (((j : Int) + 1).toNat - j) = s.take (j + 1) := by
  rw [show ((j : Int) + 1).toNat - j = 1 by omega,List.take_add]
 refine CallK.exact (runeC hj' (by omega)) fun w2 hE2 => ⟨_,_,rfl,fun _ => ⟨by omega,hlt⟩,fun h => ?_,fun _ => ⟨⟨by omega,hlt⟩,fun h => ?_,fun _ => ⟨⟨by omega,by omega⟩,⟨by omega,by omega,by omega⟩,?_,⟨by omega,by omega⟩,⟨j + 1,by omega,by omega,e,hE.trans hE2⟩,?_⟩⟩⟩
 ·rcases h with h | h
  ·omega
  ·omega
 ·omega
 ·simp only [List.length_take,List.length_drop]; omega
 ·dsimp only; omega
theorem nextEnd {w : World} {s : Str} : Calls Tryz.prog 29 #[.string (Bs s),.int .i64 (s.length : Int),.string (Bs ([] : Str))] w (Ret fun v w' => Ext w w' ∧ v = .tuple #[.agg #[.int .i64 6,.string (Bs ([] : Str)),.string (Bs ([] : Str)),Sl.v Sl.nil,.bool false],.int .i64 (s.length : Int),.bool true]) := by
 refine ref10_Next.ok _ _ _ ?_
 unfold ref10_Next.vc
 exact ⟨fun _ w1 B4 hN hE => ⟨hE,rfl⟩,fun h => by omega⟩
theorem sep_next {p : Pc} {ps : List Pc} (h : Sep (p :: ps)) (hok : ∀ q ∈ ps,q.Ok) : ∀ x,p = .t x → srcs ps = [] ∨ ∃ q,srcs ps = 60 :: q := fun x hx => by
 rcases h.1 x hx with rfl | ⟨q,r',rfl,hq⟩
 ·exact .inl rfl
 ·cases q with
  |s nm => exact .inr ⟨_,rfl⟩
  |e nm => exact .inr ⟨_,rfl⟩
  |t y => exact absurd rfl (hq y)
theorem tkc_one (p : Pc) : ∀ u ∈ ([tkc p].flatten),u.oneCell' = true := by
 intro u hu
 simp only [List.flatten_cons,List.flatten_nil,List.append_nil,tkc,List.mem_cons,List.not_mem_nil,or_false] at hu
 rcases hu with rfl | rfl | rfl | rfl | rfl <;> rfl
theorem tkc0_one : ∀ u ∈ ([tkc0].flatten),u.oneCell' = true := by
 intro u hu
 simp only [List.flatten_cons,List.flatten_nil,List.append_nil,tkc0,List.mem_cons,List.not_mem_nil,or_false] at hu
 rcases hu with rfl | rfl | rfl | rfl | rfl <;> rfl
theorem Own.many {A : List Nat} {w : World} {B size : Nat} {S : TypeId} {us : List (List Value)} (h : Box w B S us.flatten) (hu : ∀ u ∈ us,u.length = size) (hn : us.length ≤ maxLen) (hA : B ∉ A) : Own A w ⟨some ⟨B,0,none⟩,us.length,us.length⟩ size S us :=
 ⟨rfl,Nat.le_refl _,hn,hu,.inr ⟨B,us.flatten,rfl,hA,h,flatten_len us hu,by rw [← flatten_len us hu,List.take_length]⟩⟩
theorem allC {w : World} {Q : World → Prop} (hq : Q w) (hQ : ∀ {a b : World},Q a → Ext a b → Q b) (ps : List Pc) (hok : ∀ p ∈ ps,p.Ok) (hsep : Sep ps) (hl : (srcs ps).length ≤ 100000)
  (hn : ∀ p ∈ ps,(∀ x,p ≠ .t x) → ∀ w : World,Q w → Calls Tryz.prog 83 #[.string (Bs p.name)] w (Ret fun v w' => Ext w w' ∧ v = .string (Bs p.name)))
  (hraw : ∀ p ∈ ps,p.kind = 1 → ∀ w : World,Q w → Calls Tryz.prog 30 #[.string (Bs p.name)] w (Ret fun v w' => Ext w w' ∧ v = .int .i64 0))
  (hlow : ∀ w : World,Q w → Calls Tryz.prog 46 #[.string (Bs ([60,47] : Str))] w (Ret fun v w' => Ext w w' ∧ v = .string (Bs ([60,47] : Str)))) :
  Calls Tryz.prog 16 #[.string (Bs (srcs ps))] w (Ret fun v w' => Ext w w' ∧ ∃ l : Sl,v = l.v ∧ Row [] w' l 5 (ps.map tkc ++ [tkc0])) := by
 refine ref11_All.ok _ ?_
 unfold ref11_All.vc
 have hsig : ∀ c ∈ srcs ps,33 ≤ c.toNat ∧ c.toNat ≤ 126 := fun c hc => by
  obtain ⟨l,hl,hc⟩ := List.mem_flatten.1 hc
  obtain ⟨p,hp,rfl⟩ := List.mem_map.1 hl
  exact src_sign (hok p hp) c hc
 have hnum : ∀ l : List Pc,(∀ p ∈ l,p.Ok) → l.length ≤ (srcs l).length := fun l => by
  induction l with
  |nil => intro _; exact Nat.zero_le _
  |cons p l ih =>
   intro h
   have h1 := ih fun q hq => h q (by simp [hq])
   have h2 : 0 < p.src.length := by
    have hp := h p (by simp)
    cases p with
    |s nm => simp [Pc.src]
    |e nm => simp [Pc.src]
    |t x => cases x with
     |nil => exact absurd rfl (hp.word _ rfl)
     |cons a b => simp [Pc.src]
   rw [srcs_cons,List.length_append,List.length_cons]; omega
 refine CallK.exact (cleanC hsig (by omega)) fun w1 hE1 => ⟨_,rfl,?_⟩
 generalize hs : srcs ps = s at hl hsig
 refine ⟨fun l raw a w2 => ∃ (dn td : List Pc) (k : Nat),a = (k : Int) ∧ raw = [] ∧ ps = dn ++ td ∧ Sep td ∧ k ≤ s.length ∧ s.drop k = srcs td ∧ Own (List.range w.heap.size) w2 l 5 51 (dn.map tkc) ∧ Ext w w2,fun _ _ a _ => s.length - a.toNat,⟨[],ps,0,rfl,rfl,rfl,hsep,Nat.zero_le _,hs.symm,Own.nil _ _ _ _,hE1⟩,?_⟩
 rintro l _ _ w2 ⟨dn,td,k,rfl,rfl,hps,hst,hk,hd,hO,hE2⟩
 have hdn : dn.length ≤ 100000 := by
  have := hnum ps hok
  rw [hs,hps,List.length_append] at this; omega
 have hln : l.n = dn.length := by simpa using hO.len
 -- a piece more
 have more : ∀ {w3 w4 : World} {B53 B60 : Nat} {c : List Value} {K : Value → World → Prop},Ext w2 w3 → New w3 B53 w4 → New w3 B60 w4 → Ext w3 w4 → Box w4 B60 51 c → c.length = 5 → (∀ u ∈ ([c].flatten),u.oneCell' = true) →
   (∀ (l' : Sl) (w5 : World),Own (List.range w.heap.size) w5 l' 5 51 (dn.map tkc ++ [c]) → Ext w w5 → K l'.v w5) →
   RunK Tryz.prog (Builtin.append_ #[22,22] 22 #[Sl.v l,Sl.v (Sl.mk (some ⟨B60,0,none⟩) 1 1)]) w4 [B53] K := fun {w3 w4 B53 B60 c K} hE3 hN53 hN60 hE4 hB hc h1 kk => by
  have hO4 : Own (B53 :: List.range w.heap.size) w4 l 5 51 (dn.map tkc) := ((hO.ext hE3).ext hE4).cons fun hm => by
   have := ((hO.ext hE3).blk _ hm).2
   have := hN53.ge
   omega
  have hEw : Ext w w4 := (hE2.trans hE3).trans hE4
  refine App.runK Tryz.underlying22 ti_51 rfl (by decide) (.inl hO4) (fun b hb => ?_) (Own.many (us := [c]) (by simpa using hB) (by simpa using hc) (by simp [maxLen]) (by simp)).row h1 (by simp) (by simp [maxLen]; omega) (by simp; omega) (by simp) fun l' w5 hO5 hC5 _ => ?_
  ·rcases List.mem_cons.1 hb with rfl | hb
   ·exact hN53.lt
   ·have := List.mem_range.1 hb; have := hEw.size; omega
  ·refine kk l' w5 (hO5.less fun b hb => List.mem_cons_of_mem _ hb) (Chg.fresh hEw hC5 fun x hx => ?_)
   have := (hO.blk x (Sl.own_blk hx)).1
   rcases Nat.lt_or_ge x w.heap.size with h | h
   ·exact absurd (List.mem_range.2 h) this
   ·exact h
 cases td with
 |nil =>
  have hkl : k = s.length := by
   have := drop_len hd hk
   simpa [srcs] using this
  subst hkl
  refine CallK.exact nextEnd fun w3 hE3 => ⟨_,_,_,_,_,_,_,rfl,fun h => (by cases h),fun _ w4 B53 B60 hN53 hN60 _ hE4 hB => ?_⟩
  refine more hE3 hN53 hN60 hE4 hB rfl tkc0_one fun l' w5 hO5 hE5 => ⟨l',rfl,fun _ => ⟨hE5,l',rfl,?_⟩,fun h => absurd rfl h⟩
  rw [hps,List.append_nil]
  exact hO5.row.less (by simp)
 |cons p td =>
  have hp : p.Ok := hok p (by rw [hps]; simp)
  have hpm : p ∈ ps := by rw [hps]; simp
  rw [srcs_cons] at hd
  have hlen := drop_len hd hk
  rw [List.length_append] at hlen
  refine CallK.exact (nextC (hQ hq hE2) hQ hd hk hp (sep_next hst fun q hq => hok q (by rw [hps]; simp [hq])) (by omega) (hn p hpm) hlow) fun w3 hE3 => ⟨_,_,_,_,_,_,_,rfl,fun h => (by cases h),fun _ w4 B53 B60 hN53 hN60 _ hE4 hB => ?_⟩
  refine more hE3 hN53 hN60 hE4 hB rfl (tkc_one p) fun l' w5 hO5 hE5 => ⟨l',rfl,fun h => ?_,fun _ => ⟨0,fun h => hraw p hpm h w5 (hQ hq hE5),fun w6 hE6 => ?_⟩⟩
  ·cases p <;> simp [Pc.kind] at h
  ·have hr : (bif ((decide (p.kind = 1)) && (decide ((0 : Int) < 0))) then p.name else (bif ((decide (p.kind = 1)) || ((decide (p.kind = 2)) && (decide (p.name = ([] : Str))))) then ([] : Str) else ([] : Str))) = ([] : Str) := by
    cases decide (p.kind = 1) <;> cases decide (p.kind = 2) <;> cases decide (p.name = ([] : Str)) <;> rfl
   have hpos : 0 < p.src.length := by
    have := hnum [p] (by simpa using hp)
    simp [srcs] at this; omega
   rw [hr]
   refine ⟨⟨dn ++ [p],td,k + p.src.length,rfl,rfl,by rw [hps]; simp,hst.2,by omega,(drop_app hd).1,by rw [List.map_append]; exact hO5.ext hE6,hE5.trans hE6⟩,?_⟩
   dsimp only; omega
end
section
namespace Ev
set_option autoImplicit false
open Go.RowKit
section
variable [Tx]
theorem HR.toLst {E : En} {H : AH} {w0 : W0} {w : World} {b B S T : Nat} {c : List AC} (h : HR E H w0 w) (hg : H.get b = some (.cells T c .own)) (he : E b = some (B,S)) (hB : Box w B 73 [Sl.v Sl.nil]) (ha : ∀ n p,E n = some p → live H n) : HR E (H.set b (.lst [])) w0 w := by
 have hat : H.at b = some (T,c,.own) := AH.at_eq.2 ⟨hg,fun f e h => by cases h⟩
 have ne : ∀ {n T c l},(H.set b (.lst [])).at n = some (T,c,l) → n ≠ b ∧ H.at n = some (T,c,l) := fun {n T c l} h => by
  have hn : n ≠ b := fun e => by subst e; rw [set_lst_at] at h; cases h
  rw [set_at hn] at h
  exact ⟨hn,h⟩
 have no : ∀ {n o},(H.set b (.lst [])).get n = some o → (∀ u,o ≠ .lst u) → n ≠ b ∧ H.get n = some o := fun {n o} hn ho => by
  rw [AH.get_set] at hn
  by_cases e : n = b
  ·rw [if_pos e] at hn; injection hn with hn; exact absurd hn.symm (ho _)
  ·rw [if_neg e] at hn; exact ⟨e,hn⟩
 have lv : ∀ {n},live (H.set b (.lst [])) n → n ≠ b ∧ live H n := fun {n} hl => by
  rcases hl with hl | ⟨es,cl,hl⟩
  ·cases hat : (H.set b (.lst [])).at n with
   |none => rw [hat] at hl; cases hl
   |some q =>
    obtain ⟨T,c,l⟩ := q
    obtain ⟨h1,h2⟩ := ne hat
    exact ⟨h1,.inl (by rw [h2]; rfl)⟩
  ·obtain ⟨h1,h2⟩ := no hl (by simp)
   exact ⟨h1,.inr ⟨es,cl,h2⟩⟩
 obtain ⟨_,_,_,_,_,_,hm⟩ := h.cel b T c .own B S hat he
 refine ⟨h.lt,h.wp,h.ch,h.dom,fun n o hn => ?_,h.fkey,fun n T c l e hn => h.bf n T c l e (no hn (by simp)).2,fun n T c f e hn => ?_,fun n T c l B' S' hn hE => h.cel n T c l B' S' (ne hn).2 hE,fun n es cl B' S' hn hE => h.mp n es cl B' S' (no hn (by simp)).2 hE,fun n n' B' S' S'' hnn h1 h2 h3 h4 => ?_,fun n u B' S' hn hE => ?_⟩
 ·by_cases e : n = b
  ·subst e; exact h.key _ _ hg
  ·rw [AH.get_set,if_neg e] at hn; exact h.key n o hn
 ·obtain ⟨h1,h2⟩ := ne hn
  obtain ⟨q,T',c',g1,g2,g3⟩ := h.las n T c f e h2
  have hq : q ≠ b := fun e => by
   subst e
   rw [hat] at g2; cases g2
  exact ⟨q,T',c',g1,by rw [set_at hq]; exact g2,g3⟩
 ·obtain ⟨k1,k2⟩ := lv h3
  obtain ⟨k3,k4⟩ := lv h4
  obtain ⟨f,e,T,c,T',c',g1,g2⟩ := h.inj n n' B' S' S'' hnn h1 h2 k2 k4
  exact ⟨f,e,T,c,T',c',by rw [set_at k1]; exact g1,by rw [set_at k3]; exact g2⟩
 ·by_cases e : n = b
  ·subst e
   rw [AH.get_set,if_pos rfl] at hn
   injection hn with hn; injection hn with hn; subst hn
   rw [he] at hE; injection hE with hE; injection hE with e1 e2; subst e1; subst e2
   refine ⟨[B],by simp,⟨Sl.nil,[],⟨hB,by simp,Own.nil _ _ _ _,by simp,by simp,by simp⟩,by simp,(fun b hb => by cases hb),by simp,by simp⟩,fun m p hm' hp hk => ?_,fun k hk => ?_⟩
   ·obtain ⟨p1,p2⟩ := p
    obtain rfl : p1 = B := by simpa using hk
    obtain ⟨f,e,T1,c1,T2,c2,g1,g2⟩ := h.inj m n _ p2 S hm' hp he (ha m _ hp) (ha n _ he)
    rw [hat] at g2; cases g2
   ·obtain rfl := List.mem_singleton.1 hk
    exact ⟨hB.lt,(hm (by simp)).2⟩
  ·rw [AH.get_set,if_neg e] at hn
   exact h.ls n u B' S' hn hE
def View (S S' : AH) : Prop := ∀ {F : List Nat} {b : Nat} {w : World},BSt S F b w → BSt S' F b w
theorem View.refl (S : AH) : View S S := fun h => h
theorem View.lst {S : AH} {b : Nat} {v v' : List (Nat × Nat)} (hg : S.get b = some (.lst v)) (hv : ∀ K w B,LsN K w B v → LsN K w B v') : View S (S.set b (.lst v')) := fun ⟨E,h⟩ => ⟨E,h.fst,h.mem,h.hr.view hg fun K B => hv K _ B,h.lt⟩
end
end Ev
end
section
open Go.RowKit
namespace Ev
noncomputable section
def retV (r : Option (AV × AH)) : Option AV := match r with
 |some (v,_) => some v
 |none => none
section
variable [Ev.Tx]
theorem closedV {f : FuncId} {vs : List AV} {args : List Value} {v : AV} (h : retV (runT ftb f vs H00) = some v) (hvs : All2 (AV.v fun _ => none) vs args) {w : World} (hw : WP w) : Calls Tryz.prog f args.toArray w (Ret fun u w' => Ext w w' ∧ ∃ E,v.v E u) := by
 unfold retV at h
 split at h
 ·rename_i v' H hr
  injection h with h; subst h
  obtain ⟨_,hb⟩ := runT_ok ftb_ok hr
  refine (hb (fun g hg => absurd hg (Nat.not_lt_zero g)) (HR.start hw) hvs).2.mono fun e w' hx => ?_
  cases e with
  |returned u =>
   obtain ⟨E',_,_,h3,h4⟩ := hx
   exact ⟨h3.ch.ext,E',h4⟩
  |_ => exact hx.elim
 ·cases h
end
theorem nat_str (x : Str) : (x.map UInt8.toNat).map UInt8.ofNat = x ∧ ∀ n ∈ x.map UInt8.toNat,n < 256 := by
 constructor
 ·rw [List.map_map]
  conv => rhs; rw [← List.map_id x]
  exact List.map_congr_left fun b _ => by simp
 ·intro n hn
  obtain ⟨b,_,rfl⟩ := List.mem_map.1 hn
  exact b.toNat_lt
def ns (x : Str) : List Nat := x.map UInt8.toNat
section
variable [Ev.Tx]
theorem sv_str (E : En) (x : Str) : (AC.s (ns x)).v E (.string (Bs x)) := by
 obtain ⟨h1,h2⟩ := nat_str x
 exact ⟨by unfold ns; rw [h1],h2⟩
theorem closed_str {f : FuncId} {x y : Str} (h : retV (runT ftb f [.c (.s (ns x))] H00) = some (.c (.s (ns y)))) {w : World} (hw : WP w) : Calls Tryz.prog f #[.string (Bs x)] w (Ret fun u w' => Ext w w' ∧ u = .string (Bs y)) :=
 (closedV h (.cons (sv_str (fun _ => none) x) .nil) hw).mono fun e w' hx => by
  cases e with
  |returned u =>
   obtain ⟨hE,E,hu,_⟩ := hx
   exact ⟨hE,by rw [hu]; unfold ns; rw [(nat_str y).1]⟩
  |_ => exact hx.elim
theorem closed_int {f : FuncId} {x : Str} {n : Int} (h : retV (runT ftb f [.c (.s (ns x))] H00) = some (.c (.i .i64 n))) {w : World} (hw : WP w) : Calls Tryz.prog f #[.string (Bs x)] w (Ret fun u w' => Ext w w' ∧ u = .int .i64 n) :=
 (closedV h (.cons (sv_str (fun _ => none) x) .nil) hw).mono fun e w' hx => by
  cases e with
  |returned u =>
   obtain ⟨hE,E,hu⟩ := hx
   exact ⟨hE,hu⟩
  |_ => exact hx.elim
def tkA (p : Pc) : List AC := [.i .i64 p.kind,.s (ns p.name),.s (ns p.text),.sl none 0 0 0,.b false]
def tkA0 : List AC := [.i .i64 6,.s [],.s [],.sl none 0 0 0,.b false]
theorem tkA_v (E : En) (p : Pc) : (AV.a (tkA p)).v E (.agg #[.int .i64 p.kind,.string (Bs p.name),.string (Bs p.text),Sl.v Sl.nil,.bool false]) :=
 ⟨tkc p,rfl,.cons rfl (.cons (sv_str E p.name) (.cons (sv_str E p.text) (.cons ⟨rfl,rfl,rfl⟩ (.cons rfl .nil))))⟩
theorem tkA0_v (E : En) : (AV.a tkA0).v E (.agg #[.int .i64 6,.string (Bs ([] : Str)),.string (Bs ([] : Str)),Sl.v Sl.nil,.bool false]) :=
 ⟨tkc0,rfl,.cons rfl (.cons (sv_str E []) (.cons (sv_str E []) (.cons ⟨rfl,rfl,rfl⟩ (.cons rfl .nil))))⟩
def madeOk (S : AH) : Bool := match S.at 0 with
 |some (_,_ :: _ :: .i .i64 (.ofNat m) :: _,_) => Nat.ble m 300
 |_ => false
theorem made_cell {S : AH} {F : List Nat} {b : Nat} {w : World} (h : BSt S F b w) (hm : madeOk S = true) : ∃ x : Int,w.cell? ((⟨b,0,none⟩ : Addr).add 2) = some (.int .i64 x) ∧ ¬ (300 < x) := by
 unfold madeOk at hm
 split at hm
 ·rename_i T x y m r l hat
  obtain ⟨E,h⟩ := h
  obtain ⟨v,h1,rfl⟩ := h.cell hat (j := 2) rfl
  refine ⟨_,by rw [Addr.add_lit]; exact h1,?_⟩
  rw [Nat.ble_eq] at hm
  intro h
  have : ((m : Nat) : Int) ≤ 300 := by omega
  exact absurd h (by simpa using this)
 ·cases hm
structure PStep (S : AH) (p : Pc) (S' : AH) : Prop where
 made : madeOk S = true
 cnt : retV (runT ftb 20 [.a (tkA p)] H00) = some (.c (.b true))
 step : stepM (runT ftb) 21 [.a (tkA p)] S = some S'
def TkV (l : List AC) (p : Pc) : Prop := ∀ E,(AV.a l).v E (.agg #[.int .i64 p.kind,.string (Bs p.name),.string (Bs p.text),Sl.v Sl.nil,.bool false])
structure LStep (S : AH) (l : List AC) (S' : AH) : Prop where
 made : madeOk S = true
 cnt : retV (runT ftb 20 [.a l] H00) = some (.c (.b true))
 step : ∃ S1,stepM (runT ftb) 21 [.a l] S = some S1 ∧ View S1 S'
inductive Path : AH → List Pc → AH → Prop
 |nil (S : AH) : Path S [] S
 |consL {S S' S2 : AH} {l : List AC} {p : Pc} {ps : List Pc} (hv : TkV l p) (h : LStep S l S') (t : Path S' ps S2) : Path S (p :: ps) S2
theorem Path.cons {S S' S2 : AH} {p : Pc} {ps : List Pc} (h : PStep S p S') (t : Path S' ps S2) : Path S (p :: ps) S2 := .consL (fun E => tkA_v E p) ⟨h.made,h.cnt,_,h.step,View.refl _⟩ t
theorem Path.app {S S' S2 : AH} {ps qs : List Pc} (h : Path S ps S') (k : Path S' qs S2) : Path S (ps ++ qs) S2 := by
 induction h with
 |nil => exact k
 |consL hv h _ ih => exact .consL hv h (ih k)
def finT (S : AH) : Option T := match S.at 0 with
 |some (_,.p (some (r,0)) :: _,_) => (match runT ftb 22 [.c (.p (some (r,0)))] S with
  |some (v,H) => (match gcV v H with
   |some (v1,S1) => treeT S1 v1
   |none => none)
  |none => none)
 |_ => none
def initS : AH := mkH [.cells 60 [.p (some (1,0)),.p none,.i .i64 1,.sl none 0 0 0,.p (some (2,0)),.i .i64 0,.b false,.b false] .own,
 .cells 56 [.i .i64 0,.i .i64 1,.s [],.s [],.sl none 0 0 0,.p none,.sl none 0 0 0] .own,.lst []]
end
def initS0 : AH := mkH [.cells 60 [.p (some (1,0)),.p none,.i .i64 1,.sl none 0 0 0,.p (some (2,0)),.i .i64 0,.b false,.b false] .own,
 .cells 56 [.i .i64 0,.i .i64 1,.s [],.s [],.sl none 0 0 0,.p none,.sl none 0 0 0] .own,.cells 73 [.sl none 0 0 0] .own]
theorem newC {w : World} : Calls Tryz.prog 19 #[] w (Ret fun v w' => Ext w w' ∧ ∃ B,v = .pointer (some ⟨B,0,none⟩) ∧ w.heap.size ≤ B ∧ Box w' B 73 [Sl.v Sl.nil]) := by
 refine format_New.ok ?_
 unfold format_New.vc
 intro w3 B hN hE hB
 exact ⟨hE,B,rfl,hN.ge,hB⟩
section
variable [Ev.Tx]
theorem buildC {w : World} (hw : WP w) {ps : List Pc} {l : Sl} (hl : Row [] w l 5 (ps.map tkc ++ [tkc0])) {S S2 : AH} {t : T} (hp : Path initS ps S) (h0 : stepM (runT ftb) 21 [.a tkA0] S = some S2) (hm2 : madeOk S2 = true) (ht : finT S2 = some t) (hck : t.check = true) (hbk : t.bulk ≤ 1099511627776) :
  Calls Tryz.prog 11 #[l.v] w (Ret fun v w' => Ext w w' ∧ ∃ sk : Sl,v = .tuple #[tv t Sl.nil sk,.int .i64 0] ∧ RdQ w' t Sl.nil sk) := by
 have hrun : RunOk Tryz.prog 0 (runT ftb) := runT_ok ftb_ok
 have hln : l.n = ps.length + 1 := by simpa using hl.len
 have hmost : l.n ≤ maxLen := Nat.le_trans hl.cap hl.most
 simp only [maxLen] at hmost
 have htab := table_lt hw
 refine build_Build.ok _ ?_
 unfold build_Build.vc
 intro w6 B2 B5 hN2 hN5 hne hE6
 refine CallK.ext newC ?_
 rintro _ w8 hE8 ⟨BL,rfl,hBL,hboxL⟩
 refine ⟨_,rfl,fun w10 B9 hN9 hE10 => ?_⟩
 have hE : Ext w w10 := (hE6.trans hE8).trans hE10
 have h2 := hN2.ge
 have h2' := hN2.lt
 have h5 := hN5.ge
 have h5' := hN5.lt
 have h9 := hN9.ge
 have hLlt := hboxL.lt
 have s6 := hE6.size
 have s8 := hE8.size
 have s10 := hE10.size
 refine ⟨fun w' => ∃ F,BSt S F B9 w' ∧ (∀ x ∈ F,w.heap.size ≤ x ∧ x ≠ B2) ∧ B2 < w'.heap.size ∧ Ext w w',fun hb5 hb9 => ?_,?_⟩
 ·refine ⟨fun x w' => ∃ (dn td : List Pc) (S' : AH) (F : List Nat),x = (dn.length : Int) ∧ ps = dn ++ td ∧ Path S' td S ∧ BSt S' F B9 w' ∧ (∀ x ∈ F,w.heap.size ≤ x ∧ x ≠ B2) ∧ B2 < w'.heap.size ∧ Ext w w',fun x _ => l.n - x.toNat,⟨[],ps,initS,[B9,B5,BL],rfl,rfl,hp,?_,?_,by omega,hE⟩,?_⟩
  ·have hwp : WP w10 := WP.ext hw hE
   have hq0 : HR (bkE [⟨B9,60,[.p (some (1,0)),.p none,.i .i64 1,.sl none 0 0 0,.p (some (2,0)),.i .i64 0,.b false,.b false],[.pointer (some (⟨B5,0,none⟩ : Addr)),.pointer none,.int .i64 1,Sl.v Sl.nil,.pointer (some ⟨BL,0,none⟩),.int .i64 0,.bool false,.bool false]⟩,
     ⟨B5,56,[.i .i64 0,.i .i64 1,.s [],.s [],.sl none 0 0 0,.p none,.sl none 0 0 0],[.int .i64 0,.int .i64 1,.string (Bs ([] : Str)),.string (Bs ([] : Str)),Sl.v Sl.nil,.pointer none,Sl.v Sl.nil]⟩,
     ⟨BL,73,[.sl none 0 0 0],[Sl.v Sl.nil]⟩]) initS0 (F0 w10 [B9,B5,BL]) w10 := by
    refine bkH_ok hwp ?_ ?_ ?_ ?_
    ·simp only [List.mem_cons,List.not_mem_nil,or_false,not_or]; omega
    ·simp
    ·intro i j x y hij hx hy
     rcases i with _ | _ | _ | i <;> rcases j with _ | _ | _ | j <;> simp at hx hy hij ⊢ <;> subst hx <;> subst hy <;> simp only <;> omega
    ·intro x hx
     have z : ∀ E : En,(AC.sl none 0 0 0).v E (Sl.v Sl.nil) := fun E => ⟨rfl,rfl,rfl⟩
     simp only [List.mem_cons,List.not_mem_nil,or_false] at hx
     rcases hx with rfl | rfl | rfl
     ·exact ⟨hb9,Pre.all2 (.cons ⟨B5,7,rfl,rfl⟩ (.cons rfl (.cons rfl (.cons (z _) (.cons ⟨BL,1,rfl,rfl⟩ (.cons rfl (.cons rfl (.cons rfl .nil))))))))⟩
     ·exact ⟨hb5,Pre.all2 (.cons rfl (.cons rfl (.cons (sv_str _ []) (.cons (sv_str _ []) (.cons (z _) (.cons rfl (.cons (z _) .nil)))))))⟩
     ·exact ⟨hboxL.ext hE10,Pre.all2 (.cons (z _) .nil)⟩
   have hq := hq0.toLst (b := 2) (B := BL) (S := 1) (T := 73) (c := [.sl none 0 0 0]) rfl rfl (hboxL.ext hE10) fun n p hn => by
    rcases n with _ | _ | _ | n <;> simp [bkE] at hn <;> exact .inl rfl
   refine ⟨_,⟨8,rfl⟩,fun n p hn => ?_,hq,fun x hx => ?_⟩
   ·rcases n with _ | _ | _ | n <;> simp [bkE] at hn <;> subst hn <;> simp
   ·simp only [List.mem_cons,List.not_mem_nil,or_false] at hx
    rcases hx with rfl | rfl | rfl
    ·exact hN9.lt
    ·have := hE10.size; omega
    ·have := hE10.size; omega
  ·intro x hx
   simp only [List.mem_cons,List.not_mem_nil,or_false] at hx
   rcases hx with rfl | rfl | rfl
   ·exact ⟨by omega,by omega⟩
   ·exact ⟨by omega,fun e => hne e.symm⟩
   ·exact ⟨by omega,by omega⟩
  ·rintro _ w98 ⟨dn,td,S',F,rfl,hps,hpt,hS,hF,hB2,hE98⟩
   have hdn : dn.length ≤ ps.length := by rw [hps]; simp
   refine ⟨fun hlt => ⟨⟨by omega,hlt⟩,?_⟩,fun hge => by omega⟩
   rw [Int.toNat_natCast]
   obtain ⟨p,hpa,_,hc,_⟩ := (hl.ext hE98).at_ dn.length (by simp; omega)
   refine ⟨p,hpa,?_⟩
   cases td with
   |nil =>
    have e : (ps.map tkc ++ [tkc0]).getD dn.length [] = tkc0 := by
     rw [hps,List.append_nil,List.getD_eq_getElem?_getD,List.getElem?_append_right (by simp)]; simp
    rw [e] at hc
    cases hpt
    refine ⟨_,_,_,_,_,hc,fun w122 B120 hN hE122 => ⟨0,fun h => absurd rfl h,fun _ => ⟨F,hS.ext hE122,hF,Nat.lt_of_lt_of_le hB2 hE122.size,hE98.trans hE122⟩,fun h => absurd rfl h.1⟩⟩
   |cons q td =>
    have e : (ps.map tkc ++ [tkc0]).getD dn.length [] = tkc q := by
     rw [hps,List.getD_eq_getElem?_getD,List.getElem?_append_left (by simp)]; simp
    rw [e] at hc
    cases hpt with
    |@consL _ S1 _ ql _ _ htv hst hrest =>
    refine ⟨_,_,_,_,_,hc,fun w122 B120 hN hE122 => ?_⟩
    have hS1 := hS.ext hE122
    obtain ⟨x,hx1,hx2⟩ := made_cell hS1 hst.made
    have hk6 : ¬ q.kind = 6 := by cases q <;> simp [Pc.kind]
    refine ⟨x,fun _ => hx1,fun h => ?_,fun _ => ?_⟩
    ·rcases h with h | h
     ·exact absurd h hk6
     ·exact absurd h hx2
    have hwp : WP w122 := WP.ext hw (hE98.trans hE122)
    refine CallK.ext (closedV hst.cnt (.cons (htv _) .nil) hwp) ?_
    rintro _ w128 hE128 ⟨E0,rfl⟩
    refine ⟨true,rfl,fun _ => ?_,fun h => by cases h⟩
    have hS2 := hS1.ext hE128
    have hlt98 : ∀ x ∈ F,x < w98.heap.size := by obtain ⟨E,h⟩ := hS; exact h.lt
    obtain ⟨S0,hst1,hvw⟩ := hst.step
    refine CallK.chg (hS2.step hrun (fun E => .cons (htv E) .nil) hst1) (fun b hb => ?_) ?_
    ·simp only [List.mem_cons,List.not_mem_nil,or_false] at hb
     rcases hb with rfl | rfl
     ·exact fun hm => (hF _ hm).2 rfl
     ·exact fun hm => by have := hlt98 _ hm; have := hN.ge; omega
    ·rintro _ w130 hC ⟨⟨F',hS',hF'⟩,rfl⟩
     have hEw : Ext w w128 := (hE98.trans hE122).trans hE128
     have hEw' : Ext w w130 := Chg.fresh hEw hC fun x hx => (hF x hx).1
     refine ⟨rfl,⟨by omega,by omega⟩,⟨dn ++ [q],td,S1,F',by simp,by rw [hps]; simp,hrest,hvw hS',fun x hx => ?_,?_,hEw'⟩,by dsimp only; omega⟩
     ·rcases hF' x hx with h | h
      ·exact hF x h
      ·have := hE122.size; have := hE128.size; have := hEw.size
       exact ⟨by omega,by omega⟩
     ·have := hE122.size; have := hE128.size; have := hC.size; omega
 ·rintro w73 ⟨F,hS,hF,hB2,hE73⟩
  refine CallK.chg (hS.step hrun (fun E => .cons (tkA0_v E) .nil) h0) (fun b hb => ?_) ?_
  ·simp only [List.mem_cons,List.not_mem_nil,or_false] at hb
   subst hb
   exact fun hm => (hF _ hm).2 rfl
  ·rintro _ w135 hC ⟨⟨F2,hS2,hF2⟩,rfl⟩
   have hE135 : Ext w w135 := Chg.fresh hE73 hC fun x hx => (hF x hx).1
   have hB2' : B2 < w135.heap.size := Nat.lt_of_lt_of_le hB2 hC.size
   have hF2' : ∀ x ∈ F2,w.heap.size ≤ x ∧ x ≠ B2 := fun x hx => by
    rcases hF2 x hx with h | h
    ·exact hF x h
    ·have := hE73.size; exact ⟨by omega,by omega⟩
   obtain ⟨x,hx1,hx2⟩ := made_cell hS2 hm2
   refine ⟨rfl,x,hx1,fun h => absurd h hx2,fun _ => ?_⟩
   obtain ⟨E,hB⟩ := hS2
   unfold finT at ht
   split at ht
   ·rename_i T0 r rest lk hat
    split at ht
    ·rename_i v H hr
     split at ht
     ·rename_i v1 S1 hg
      obtain ⟨hg1,hv1⟩ := gcV_ok hg
      obtain ⟨u0,hu1,hu2⟩ := hB.cell hat (j := 0) rfl
      obtain ⟨Br,nr,hEr,rfl⟩ := hu2
      refine ⟨_,by rw [Addr.add_lit]; exact hu1,?_⟩
      refine CallK.chg (F := F2) (Ret.mono (hB.call hrun (.cons (show AV.v E (.c (.p (some (r,0)))) (.pointer (some ⟨Br,0,none⟩)) from ⟨Br,nr,hEr,rfl⟩) .nil) hr hg1) fun u w' h => h) (fun b hb => ?_) ?_
      ·simp only [List.mem_cons,List.not_mem_nil,or_false] at hb
       subst hb
       exact fun hm => (hF2' _ hm).2 rfl
      ·rintro u w143 hC143 ⟨F3,E3,E3',hB3,hF3,_,hu,hren⟩
       have hu1' := hren _ _ _ hv1 hu
       obtain ⟨sk,rfl,hq⟩ := treeT_ok hB3.hr ht hu1'
       have hE143 : Ext w w143 := Chg.fresh hE135 hC143 fun x hx => (hF2' x hx).1
       have hF3' : ∀ x ∈ F3,w.heap.size ≤ x ∧ x ≠ B2 := fun x hx => by
        rcases hF3 x hx with h | h
        ·exact hF2' x h
        ·have := hE135.size; exact ⟨by omega,by omega⟩
       refine ⟨_,_,_,_,_,rfl,fun w146 B144 hN144 hE146 => ?_⟩
       refine CallK.exact (treeCheckQ t hbk (hq.ext hE146)) fun w149 hE149 => ?_
       rw [hck]
       refine ⟨true,rfl,fun h => (by cases h),fun _ w153 hC153 => ⟨Chg.fresh ((hE143.trans hE146).trans hE149) hC153 (by simpa using h2),?_⟩⟩
       have hB6 := ((hB3.ext hE146).ext hE149).chg hC153 (fun x hx => by simpa using (hF3' x hx).2) (by simp; omega)
       obtain ⟨sk',e,hq⟩ := treeT_ok hB6.hr ht hu1'
       refine ⟨sk',?_,hq⟩
       rw [← e]; rfl
     ·cases ht
    ·cases ht
   ·cases ht
end
end
end Ev
end
section
open Go.RowKit
def KQ (w : World) (ks : List T) (s : Sl) : Prop := s.n = ks.length ∧ ∀ i,i < ks.length → ∃ p sa sk,s.a = some p ∧ Cells w (p.add (i * 5)) (tc (ks.getD i T.nul) (sa,sk)) ∧ RdQ w (ks.getD i T.nul) sa sk
theorem RdQ.kq {w : World} {t : T} {sa sk : Sl} (h : RdQ w t sa sk) : KQ w t.kids sk := ⟨h.nkids,fun _ hi => h.kid hi⟩
theorem KQ.ext {w w' : World} {ks : List T} {s : Sl} (h : KQ w ks s) (c : Ext w w') : KQ w' ks s := ⟨h.1,fun i hi => by
 obtain ⟨p,sa,sk,h1,h2,h3⟩ := h.2 i hi
 exact ⟨p,sa,sk,h1,h2.chgE c,h3.ext c⟩⟩
theorem srcs_app (ps qs : List Pc) : srcs (ps ++ qs) = srcs ps ++ srcs qs := by simp [srcs]
theorem srcs_one (p : Pc) : srcs [p] = p.src := by simp [srcs]
namespace Ev
noncomputable section
structure PcG (p : Pc) : Prop where
 ok : p.Ok
 nm : (∀ x,p ≠ .t x) → retV (runT ftb 83 [.c (.s (ns p.name))] H00) = some (.c (.s (ns p.name)))
 raw : p.kind = 1 → retV (runT ftb 30 [.c (.s (ns p.name))] H00) = some (.c (.i .i64 0))
structure Srcs (ps : List Pc) : Prop where
 g : ∀ p ∈ ps,PcG p
 sep : Sep ps
 len : (srcs ps).length ≤ 100000
theorem low_closed : retV (runT ftb 46 [.c (.s (ns [60,47]))] H00) = some (.c (.s (ns [60,47]))) := by kernel_rfl
section
variable [Tx]
theorem allG {w : World} (hw : WP w) {ps : List Pc} (h : Srcs ps) : Calls Tryz.prog 16 #[.string (Bs (srcs ps))] w (Ret fun v w' => Ext w w' ∧ ∃ l : Sl,v = l.v ∧ Row [] w' l 5 (ps.map tkc ++ [tkc0])) :=
 allC hw (fun h c => WP.ext h c) ps (fun p hp => (h.g p hp).ok) h.sep h.len (fun p hp hx _ hw => closed_str ((h.g p hp).nm hx) hw) (fun p hp hx _ hw => closed_int ((h.g p hp).raw hx) hw) (fun _ hw => closed_str low_closed hw)
structure Runs (ps : List Pc) (t : T) : Prop where
 src : Srcs ps
 ex : ∃ S S2,Path initS ps S ∧ stepM (runT ftb) 21 [.a tkA0] S = some S2 ∧ madeOk S2 = true ∧ finT S2 = some t
 chk : t.check = true
 bulk : t.bulk ≤ 1099511627776
theorem buildS {w : World} (hw : WP w) {ps : List Pc} {t : T} (h : Runs ps t) {l : Sl} (hl : Row [] w l 5 (ps.map tkc ++ [tkc0])) : Calls Tryz.prog 11 #[l.v] w (Ret fun v w' => Ext w w' ∧ ∃ sk : Sl,v = .tuple #[tv t Sl.nil sk,.int .i64 0] ∧ RdQ w' t Sl.nil sk) := by
 obtain ⟨S,S2,h1,h2,h3,h4⟩ := h.ex
 exact buildC hw hl h1 h2 h3 h4 h.chk h.bulk
def elT (nm : Str) (ks : List T) : T := .node 2 nm [] [] ks
def txT (x : Str) : T := .node 3 [] x [] []
def pageT (hd ks : List T) : T := .node 1 [] [] [] [elT [104,116,109,108] [elT [104,101,97,100] hd,elT [98,111,100,121] ks]]
theorem bodyC {w : World} (hw : WP w) {ps : List Pc} {hd ks : List T} (h : Runs ps (pageT hd ks)) : Calls Tryz.prog 18 #[.string (Bs (srcs ps))] w (Ret fun v w' => Ext w w' ∧ ∃ s : Sl,v = .tuple #[s.v,.bool true] ∧ KQ w' ks s) := by
 refine law14_body.ok _ ?_
 unfold law14_body.vc
 refine CallK.ext (allG hw h.src) ?_
 rintro _ w4 hE4 ⟨l,rfl,hl⟩
 refine ⟨l,rfl,?_⟩
 refine CallK.ext (buildS (WP.ext hw hE4) h hl) ?_
 rintro _ w7 hE7 ⟨sk,rfl,hq⟩
 refine ⟨_,_,_,_,_,_,rfl,?_⟩
 have n0 : sk.n = 1 := hq.nkids
 obtain ⟨p,sa1,sk1,hp,hc,hq1⟩ := hq.kid (i := 0) (show 0 < 1 by decide)
 have n1 : sk1.n = 2 := hq1.nkids
 obtain ⟨p1,sa2,sk2,hp1,hc1,hq2⟩ := hq1.kid (i := 1) (show 1 < 2 by decide)
 refine ⟨p,fun _ => ⟨⟨by omega,by omega⟩,hp⟩,fun w10 B8 hN hE10 => ?_⟩
 have c1 : w10.cell? ((p.add (0 * 5)).add 4) = some sk1.v := Ext.cell hE10 (hc 4 _ rfl)
 have c2 : w10.cell? ((p1.add (1 * 5)).add 1) = some (.string (Bs [98,111,100,121])) := Ext.cell hE10 (hc1 1 _ rfl)
 have c3 : w10.cell? ((p1.add (1 * 5)).add 4) = some sk2.v := Ext.cell hE10 (hc1 4 _ rfl)
 refine ⟨sk1,fun _ => c1,p,fun _ => ⟨⟨by omega,by omega⟩,hp⟩,sk1,fun _ => c1,p1,fun _ => ⟨⟨by omega,by omega⟩,hp1⟩,[98,111,100,121],fun _ => c2,fun hx => ?_,fun _ => ⟨⟨by omega,by omega⟩,p,hp,sk1,c1,⟨by omega,by omega⟩,p1,hp1,sk2,c3,?_,sk2,rfl,(hq2.kq).ext hE10⟩⟩
 ·rcases hx with ((hx | hx) | hx) | hx
  ·exact absurd rfl hx
  ·exact absurd (by rw [n0]; rfl) hx
  ·exact absurd (by rw [n1]; rfl) hx
  ·exact absurd rfl hx
 ·exact (hE4.trans hE7).trans hE10
end
end
end Ev
end
section
namespace Ev
set_option autoImplicit false
set_option maxRecDepth 100000
noncomputable section
def ptN (n : Nat) : AC := .p (some (n,0))
def ksN (b n : Nat) : AC := .sl (some (b,0)) n n 1
def nlN : AC := .sl none 0 0 0
def ndE (id : Nat) (nm : List Nat) (par : AC) (kids : AC) : AO := .cells 56 [.i .i64 (.ofNat id),.i .i64 2,.s nm,.s [],nlN,par,kids] .own
def ndX (id : Nat) (x : List Nat) (par : AC) : AO := .cells 56 [.i .i64 (.ofNat id),.i .i64 3,.s [],.s x,nlN,par,nlN] .own
def rowN (l : List AC) : AO := .cells 53 l .own
def baseN (made : Nat) (op : AC) (li : Nat) : List AO := [.cells 60 [ptN 1,ptN 5,.i .i64 (.ofNat made),op,ptN li,.i .i64 5,.b false,.b false] .own,
 .cells 56 [.i .i64 0,.i .i64 1,.s [],.s [],nlN,.p none,ksN 2 1] .own,rowN [ptN 3],
 ndE 2 [104,116,109,108] (ptN 1) (ksN 4 2),rowN [ptN 5,ptN 6],ndE 3 [104,101,97,100] (ptN 3) nlN]
abbrev xTok (f : AC) (S : AH) : Option AH := stepM (runT ftb) 21 [.a [.i .i64 3,.s [],f,.sl none 0 0 0,.b false]] S
def AllL {α : Type} (p : α → Prop) (l : List α) : Prop := List.rec True (fun x _ ih => p x ∧ ih) l
theorem AllL.mem {α : Type} {p : α → Prop} : ∀ {l : List α},AllL p l → ∀ x ∈ l,p x
 |[],_,x,hx => by cases hx
 |y :: l,h,x,hx => by
  rcases List.mem_cons.1 hx with rfl | hx
  ·exact h.1
  ·exact AllL.mem h.2 x hx
def S0 : AH := mkH (baseN 4 (ksN 7 2) 8 ++ [ndE 4 [98,111,100,121] (ptN 3) nlN,rowN [ptN 3,ptN 6],.lst []])
theorem body_step : stepM (runT ftb) 21 [.a (tkA (.s [98,111,100,121]))] initS = some S0 := by kernel_rfl
def itN (l : List (List Nat × List Nat)) : Nat → Nat → List AO := List.rec (fun _ _ => []) (fun p _ ih id k => ndE id p.1 (ptN 6) (ksN (Nat.succ k) 1) :: rowN [ptN (Nat.add k 2)] :: ndX (Nat.succ id) p.2 (ptN k) :: ih (Nat.add id 2) (Nat.add k 3)) l
def pt3 (n : Nat) : Nat → List AC := Nat.rec (fun _ => []) (fun _ ih k => ptN k :: ih (Nat.add k 3)) n
def hS (l : List (List Nat × List Nat)) (n o : Nat) : AH := match n with
 |0 => S0
 |Nat.succ m => mkH (baseN (Nat.add 4 (Nat.mul 2 n)) (.sl (some (Nat.add 8 (Nat.mul 3 n),0)) o 3 1) (Nat.add 9 (Nat.mul 3 n)) ++ ndE 4 [98,111,100,121] (ptN 3) (ksN 7 n) :: rowN (pt3 n 8) :: (itN l 5 8 ++ [rowN [ptN 3,ptN 6,ptN (Nat.add 8 (Nat.mul 3 m))],.lst []]))
end
end Ev
end
section
namespace Ev
set_option autoImplicit false
set_option maxRecDepth 100000
noncomputable section
def nN (i c : Nat) : Nat := Nat.add (Nat.mul 4 (Nat.add i 25)) c
def vNg (n : Nat) : Nat → List (Nat × Nat) := Nat.rec (fun _ => []) (fun _ ih i => (Nat.add 5 i,nN i 3) :: ih (Nat.succ i)) n
def vN (k : Nat) : List (Nat × Nat) := vNg k 0
def elN (i : Nat) (kids : AC) : AO := .cells 56 [.i .i64 (.ofNat (Nat.add 5 i)),.i .i64 2,.tx (nN i 3) [],.s [],nlN,ptN (Nat.add 6 (Nat.mul 2 i)),kids] .own
def elsN (n : Nat) : Nat → List AO := Nat.rec (fun _ => []) (fun _ ih i => elN i (ksN (Nat.add 9 (Nat.mul 2 i)) 1) :: rowN [ptN (Nat.add 10 (Nat.mul 2 i))] :: ih (Nat.succ i)) n
def opnG (n : Nat) : Nat → List AC := Nat.rec (fun _ => []) (fun _ ih i => ptN (Nat.add 8 (Nat.mul 2 i)) :: ih (Nat.succ i)) n
def opR (k : Nat) : AO := rowN (ptN 3 :: ptN 6 :: opnG k 0)
def nAl (k : Nat) : List AO := match k with
 |0 => baseN 4 (ksN 7 2) 8 ++ [ndE 4 [98,111,100,121] (ptN 3) nlN,opR 0]
 |Nat.succ m => baseN (Nat.add 4 k) (ksN (Nat.add 7 (Nat.mul 2 k)) (Nat.add 2 k)) (Nat.add 8 (Nat.mul 2 k)) ++ ndE 4 [98,111,100,121] (ptN 3) (ksN 7 1) :: rowN [ptN 8] :: (elsN m 0 ++ [elN m nlN,opR k])
def nXl (k o : Nat) : List AO := baseN (Nat.add 5 k) (.sl (some (Nat.add 9 (Nat.mul 2 k),0)) (Nat.add 2 o) (Nat.add 2 k) 1) (Nat.add 10 (Nat.mul 2 k)) ++ ndE 4 [98,111,100,121] (ptN 3) (ksN 7 1) :: rowN [ptN 8] :: (elsN k 0 ++ [ndX (Nat.add 5 k) [120] (ptN (Nat.add 6 (Nat.mul 2 k))),opR k])
def nYl (k : Nat) : List AO := baseN (Nat.add 6 k) (.sl (some (Nat.add 10 (Nat.mul 2 k),0)) 2 (Nat.add 2 k) 1) (Nat.add 11 (Nat.mul 2 k)) ++ ndE 4 [98,111,100,121] (ptN 3) (ksN 7 2) :: rowN [ptN 8,ptN (Nat.add 9 (Nat.mul 2 k))] :: (elsN k 0 ++ [ndX (Nat.add 5 k) [120] (ptN (Nat.add 6 (Nat.mul 2 k))),ndX (Nat.add 6 k) [121] (ptN 6),opR k])
def nA (k : Nat) (V : List (Nat × Nat)) : AH := mkH (nAl k ++ [.lst V])
def nX (k o : Nat) (V : List (Nat × Nat)) : AH := mkH (nXl k o ++ [.lst V])
def nY (k : Nat) : AH := mkH (nYl k ++ [.lst []])
def sL (i c : Nat) : List AC := [.i .i64 1,.tx (nN i c) [],.s [],.sl none 0 0 0,.b false]
def eL (i c : Nat) : List AC := [.i .i64 2,.tx (nN i c) [],.s [],.sl none 0 0 0,.b false]
abbrev cntL (l : List AC) : Option AV := retV (runT ftb 20 [.a l] H00)
abbrev stp (l : List AC) (S : AH) : Option AH := stepM (runT ftb) 21 [.a l] S
def cT : Option AV := some (.c (.b true))
abbrev stA (k : Nat) : Prop := stp (sL k 0) (nA k (vN k)) = some (nA (Nat.succ k) (vN k)) ∧ stp (sL k 1) (nA k (vN k)) = some (nA (Nat.succ k) (vN k ++ [(Nat.add 5 k,nN k 1)])) ∧ stp (sL k 2) (nA k (vN k)) = some (nA (Nat.succ k) (vN k)) ∧
 (cntL (sL k 0) = cT ∧ cntL (sL k 1) = cT ∧ cntL (sL k 2) = cT) ∧ (cntL (eL k 0) = cT ∧ cntL (eL k 1) = cT ∧ cntL (eL k 2) = cT) ∧ madeOk (nA k (vN k)) = true
abbrev stE (k o : Nat) : Prop := stp (eL o 0) (nX k (Nat.succ o) (vN (Nat.succ o))) = some (nX k o (vN (Nat.succ o))) ∧ stp (eL o 1) (nX k (Nat.succ o) (vN (Nat.succ o))) = some (nX k o (vN o)) ∧ stp (eL o 2) (nX k (Nat.succ o) (vN (Nat.succ o))) = some (nX k o (vN (Nat.succ o))) ∧ madeOk (nX k (Nat.succ o) (vN (Nat.succ o))) = true
section
variable [Tx]
def nTg (n : Nat) : Nat → T := Nat.rec (fun _ => txT [120]) (fun _ ih i => elT (Tx.t (nN i 3)) [ih (Nat.succ i)]) n
abbrev stY (k : Nat) : Prop := xTok (.s [120]) (nA k (vN k)) = some (nX k k (vN k)) ∧ madeOk (nA k (vN k)) = true ∧ xTok (.s [121]) (nX k 0 []) = some (nY k) ∧ madeOk (nX k 0 []) = true ∧ stp tkA0 (nY k) = some (nY k) ∧ madeOk (nY k) = true ∧ finT (nY k) = some (pageT [] [nTg k 0,txT [121]])
end
end
end Ev
end
section
namespace Ev
set_option autoImplicit false
set_option maxRecDepth 100000
theorem nA0 : stA 0 := ⟨by kernel_rfl,by kernel_rfl,by kernel_rfl,⟨by kernel_rfl,by kernel_rfl,by kernel_rfl⟩,⟨by kernel_rfl,by kernel_rfl,by kernel_rfl⟩,by kernel_rfl⟩
theorem nA1 : stA 1 := ⟨by kernel_rfl,by kernel_rfl,by kernel_rfl,⟨by kernel_rfl,by kernel_rfl,by kernel_rfl⟩,⟨by kernel_rfl,by kernel_rfl,by kernel_rfl⟩,by kernel_rfl⟩
theorem nA2 : stA 2 := ⟨by kernel_rfl,by kernel_rfl,by kernel_rfl,⟨by kernel_rfl,by kernel_rfl,by kernel_rfl⟩,⟨by kernel_rfl,by kernel_rfl,by kernel_rfl⟩,by kernel_rfl⟩
theorem nA3 : stA 3 := ⟨by kernel_rfl,by kernel_rfl,by kernel_rfl,⟨by kernel_rfl,by kernel_rfl,by kernel_rfl⟩,⟨by kernel_rfl,by kernel_rfl,by kernel_rfl⟩,by kernel_rfl⟩
theorem nA4 : stA 4 := ⟨by kernel_rfl,by kernel_rfl,by kernel_rfl,⟨by kernel_rfl,by kernel_rfl,by kernel_rfl⟩,⟨by kernel_rfl,by kernel_rfl,by kernel_rfl⟩,by kernel_rfl⟩
theorem nA5 : stA 5 := ⟨by kernel_rfl,by kernel_rfl,by kernel_rfl,⟨by kernel_rfl,by kernel_rfl,by kernel_rfl⟩,⟨by kernel_rfl,by kernel_rfl,by kernel_rfl⟩,by kernel_rfl⟩
theorem nA6 : stA 6 := ⟨by kernel_rfl,by kernel_rfl,by kernel_rfl,⟨by kernel_rfl,by kernel_rfl,by kernel_rfl⟩,⟨by kernel_rfl,by kernel_rfl,by kernel_rfl⟩,by kernel_rfl⟩
theorem nA7 : stA 7 := ⟨by kernel_rfl,by kernel_rfl,by kernel_rfl,⟨by kernel_rfl,by kernel_rfl,by kernel_rfl⟩,⟨by kernel_rfl,by kernel_rfl,by kernel_rfl⟩,by kernel_rfl⟩
theorem nA8 : stA 8 := ⟨by kernel_rfl,by kernel_rfl,by kernel_rfl,⟨by kernel_rfl,by kernel_rfl,by kernel_rfl⟩,⟨by kernel_rfl,by kernel_rfl,by kernel_rfl⟩,by kernel_rfl⟩
theorem nA9 : stA 9 := ⟨by kernel_rfl,by kernel_rfl,by kernel_rfl,⟨by kernel_rfl,by kernel_rfl,by kernel_rfl⟩,⟨by kernel_rfl,by kernel_rfl,by kernel_rfl⟩,by kernel_rfl⟩
theorem nA10 : stA 10 := ⟨by kernel_rfl,by kernel_rfl,by kernel_rfl,⟨by kernel_rfl,by kernel_rfl,by kernel_rfl⟩,⟨by kernel_rfl,by kernel_rfl,by kernel_rfl⟩,by kernel_rfl⟩
theorem nA11 : stA 11 := ⟨by kernel_rfl,by kernel_rfl,by kernel_rfl,⟨by kernel_rfl,by kernel_rfl,by kernel_rfl⟩,⟨by kernel_rfl,by kernel_rfl,by kernel_rfl⟩,by kernel_rfl⟩
theorem nA12 : stA 12 := ⟨by kernel_rfl,by kernel_rfl,by kernel_rfl,⟨by kernel_rfl,by kernel_rfl,by kernel_rfl⟩,⟨by kernel_rfl,by kernel_rfl,by kernel_rfl⟩,by kernel_rfl⟩
theorem nA13 : stA 13 := ⟨by kernel_rfl,by kernel_rfl,by kernel_rfl,⟨by kernel_rfl,by kernel_rfl,by kernel_rfl⟩,⟨by kernel_rfl,by kernel_rfl,by kernel_rfl⟩,by kernel_rfl⟩
theorem nA14 : stA 14 := ⟨by kernel_rfl,by kernel_rfl,by kernel_rfl,⟨by kernel_rfl,by kernel_rfl,by kernel_rfl⟩,⟨by kernel_rfl,by kernel_rfl,by kernel_rfl⟩,by kernel_rfl⟩
theorem nA15 : stA 15 := ⟨by kernel_rfl,by kernel_rfl,by kernel_rfl,⟨by kernel_rfl,by kernel_rfl,by kernel_rfl⟩,⟨by kernel_rfl,by kernel_rfl,by kernel_rfl⟩,by kernel_rfl⟩
theorem nA16 : stA 16 := ⟨by kernel_rfl,by kernel_rfl,by kernel_rfl,⟨by kernel_rfl,by kernel_rfl,by kernel_rfl⟩,⟨by kernel_rfl,by kernel_rfl,by kernel_rfl⟩,by kernel_rfl⟩
theorem nA17 : stA 17 := ⟨by kernel_rfl,by kernel_rfl,by kernel_rfl,⟨by kernel_rfl,by kernel_rfl,by kernel_rfl⟩,⟨by kernel_rfl,by kernel_rfl,by kernel_rfl⟩,by kernel_rfl⟩
theorem nA18 : stA 18 := ⟨by kernel_rfl,by kernel_rfl,by kernel_rfl,⟨by kernel_rfl,by kernel_rfl,by kernel_rfl⟩,⟨by kernel_rfl,by kernel_rfl,by kernel_rfl⟩,by kernel_rfl⟩
theorem nA19 : stA 19 := ⟨by kernel_rfl,by kernel_rfl,by kernel_rfl,⟨by kernel_rfl,by kernel_rfl,by kernel_rfl⟩,⟨by kernel_rfl,by kernel_rfl,by kernel_rfl⟩,by kernel_rfl⟩
theorem nAs : AllL stA [0,1,2,3,4,5,6,7,8,9,10,11,12,13,14,15,16,17,18,19] := ⟨nA0,nA1,nA2,nA3,nA4,nA5,nA6,nA7,nA8,nA9,nA10,nA11,nA12,nA13,nA14,nA15,nA16,nA17,nA18,nA19,trivial⟩
theorem nY1 [Tx] : stY 1 := ⟨by kernel_rfl,by kernel_rfl,by kernel_rfl,by kernel_rfl,by kernel_rfl,by kernel_rfl,by kernel_rfl⟩
theorem nY2 [Tx] : stY 2 := ⟨by kernel_rfl,by kernel_rfl,by kernel_rfl,by kernel_rfl,by kernel_rfl,by kernel_rfl,by kernel_rfl⟩
theorem nY3 [Tx] : stY 3 := ⟨by kernel_rfl,by kernel_rfl,by kernel_rfl,by kernel_rfl,by kernel_rfl,by kernel_rfl,by kernel_rfl⟩
theorem nY4 [Tx] : stY 4 := ⟨by kernel_rfl,by kernel_rfl,by kernel_rfl,by kernel_rfl,by kernel_rfl,by kernel_rfl,by kernel_rfl⟩
theorem nY5 [Tx] : stY 5 := ⟨by kernel_rfl,by kernel_rfl,by kernel_rfl,by kernel_rfl,by kernel_rfl,by kernel_rfl,by kernel_rfl⟩
theorem nY6 [Tx] : stY 6 := ⟨by kernel_rfl,by kernel_rfl,by kernel_rfl,by kernel_rfl,by kernel_rfl,by kernel_rfl,by kernel_rfl⟩
theorem nY7 [Tx] : stY 7 := ⟨by kernel_rfl,by kernel_rfl,by kernel_rfl,by kernel_rfl,by kernel_rfl,by kernel_rfl,by kernel_rfl⟩
theorem nY8 [Tx] : stY 8 := ⟨by kernel_rfl,by kernel_rfl,by kernel_rfl,by kernel_rfl,by kernel_rfl,by kernel_rfl,by kernel_rfl⟩
theorem nY9 [Tx] : stY 9 := ⟨by kernel_rfl,by kernel_rfl,by kernel_rfl,by kernel_rfl,by kernel_rfl,by kernel_rfl,by kernel_rfl⟩
theorem nY10 [Tx] : stY 10 := ⟨by kernel_rfl,by kernel_rfl,by kernel_rfl,by kernel_rfl,by kernel_rfl,by kernel_rfl,by kernel_rfl⟩
theorem nY11 [Tx] : stY 11 := ⟨by kernel_rfl,by kernel_rfl,by kernel_rfl,by kernel_rfl,by kernel_rfl,by kernel_rfl,by kernel_rfl⟩
theorem nY12 [Tx] : stY 12 := ⟨by kernel_rfl,by kernel_rfl,by kernel_rfl,by kernel_rfl,by kernel_rfl,by kernel_rfl,by kernel_rfl⟩
theorem nY13 [Tx] : stY 13 := ⟨by kernel_rfl,by kernel_rfl,by kernel_rfl,by kernel_rfl,by kernel_rfl,by kernel_rfl,by kernel_rfl⟩
theorem nY14 [Tx] : stY 14 := ⟨by kernel_rfl,by kernel_rfl,by kernel_rfl,by kernel_rfl,by kernel_rfl,by kernel_rfl,by kernel_rfl⟩
theorem nY15 [Tx] : stY 15 := ⟨by kernel_rfl,by kernel_rfl,by kernel_rfl,by kernel_rfl,by kernel_rfl,by kernel_rfl,by kernel_rfl⟩
theorem nY16 [Tx] : stY 16 := ⟨by kernel_rfl,by kernel_rfl,by kernel_rfl,by kernel_rfl,by kernel_rfl,by kernel_rfl,by kernel_rfl⟩
theorem nY17 [Tx] : stY 17 := ⟨by kernel_rfl,by kernel_rfl,by kernel_rfl,by kernel_rfl,by kernel_rfl,by kernel_rfl,by kernel_rfl⟩
theorem nY18 [Tx] : stY 18 := ⟨by kernel_rfl,by kernel_rfl,by kernel_rfl,by kernel_rfl,by kernel_rfl,by kernel_rfl,by kernel_rfl⟩
theorem nY19 [Tx] : stY 19 := ⟨by kernel_rfl,by kernel_rfl,by kernel_rfl,by kernel_rfl,by kernel_rfl,by kernel_rfl,by kernel_rfl⟩
theorem nY20 [Tx] : stY 20 := ⟨by kernel_rfl,by kernel_rfl,by kernel_rfl,by kernel_rfl,by kernel_rfl,by kernel_rfl,by kernel_rfl⟩
theorem nYs [Tx] : AllL stY [1,2,3,4,5,6,7,8,9,10,11,12,13,14,15,16,17,18,19,20] := ⟨nY1,nY2,nY3,nY4,nY5,nY6,nY7,nY8,nY9,nY10,nY11,nY12,nY13,nY14,nY15,nY16,nY17,nY18,nY19,nY20,trivial⟩
end Ev
end
section
namespace Ev
set_option autoImplicit false
set_option maxRecDepth 100000
theorem nE1_0 : stE 1 0 := ⟨by kernel_rfl,by kernel_rfl,by kernel_rfl,by kernel_rfl⟩
theorem nEs1 : AllL (stE 1) [0] := ⟨nE1_0,trivial⟩
theorem nE2_0 : stE 2 0 := ⟨by kernel_rfl,by kernel_rfl,by kernel_rfl,by kernel_rfl⟩
theorem nE2_1 : stE 2 1 := ⟨by kernel_rfl,by kernel_rfl,by kernel_rfl,by kernel_rfl⟩
theorem nEs2 : AllL (stE 2) [0,1] := ⟨nE2_0,nE2_1,trivial⟩
theorem nE3_0 : stE 3 0 := ⟨by kernel_rfl,by kernel_rfl,by kernel_rfl,by kernel_rfl⟩
theorem nE3_1 : stE 3 1 := ⟨by kernel_rfl,by kernel_rfl,by kernel_rfl,by kernel_rfl⟩
theorem nE3_2 : stE 3 2 := ⟨by kernel_rfl,by kernel_rfl,by kernel_rfl,by kernel_rfl⟩
theorem nEs3 : AllL (stE 3) [0,1,2] := ⟨nE3_0,nE3_1,nE3_2,trivial⟩
theorem nE4_0 : stE 4 0 := ⟨by kernel_rfl,by kernel_rfl,by kernel_rfl,by kernel_rfl⟩
theorem nE4_1 : stE 4 1 := ⟨by kernel_rfl,by kernel_rfl,by kernel_rfl,by kernel_rfl⟩
theorem nE4_2 : stE 4 2 := ⟨by kernel_rfl,by kernel_rfl,by kernel_rfl,by kernel_rfl⟩
theorem nE4_3 : stE 4 3 := ⟨by kernel_rfl,by kernel_rfl,by kernel_rfl,by kernel_rfl⟩
theorem nEs4 : AllL (stE 4) [0,1,2,3] := ⟨nE4_0,nE4_1,nE4_2,nE4_3,trivial⟩
theorem nE5_0 : stE 5 0 := ⟨by kernel_rfl,by kernel_rfl,by kernel_rfl,by kernel_rfl⟩
theorem nE5_1 : stE 5 1 := ⟨by kernel_rfl,by kernel_rfl,by kernel_rfl,by kernel_rfl⟩
theorem nE5_2 : stE 5 2 := ⟨by kernel_rfl,by kernel_rfl,by kernel_rfl,by kernel_rfl⟩
theorem nE5_3 : stE 5 3 := ⟨by kernel_rfl,by kernel_rfl,by kernel_rfl,by kernel_rfl⟩
theorem nE5_4 : stE 5 4 := ⟨by kernel_rfl,by kernel_rfl,by kernel_rfl,by kernel_rfl⟩
theorem nEs5 : AllL (stE 5) [0,1,2,3,4] := ⟨nE5_0,nE5_1,nE5_2,nE5_3,nE5_4,trivial⟩
theorem nE6_0 : stE 6 0 := ⟨by kernel_rfl,by kernel_rfl,by kernel_rfl,by kernel_rfl⟩
theorem nE6_1 : stE 6 1 := ⟨by kernel_rfl,by kernel_rfl,by kernel_rfl,by kernel_rfl⟩
theorem nE6_2 : stE 6 2 := ⟨by kernel_rfl,by kernel_rfl,by kernel_rfl,by kernel_rfl⟩
theorem nE6_3 : stE 6 3 := ⟨by kernel_rfl,by kernel_rfl,by kernel_rfl,by kernel_rfl⟩
theorem nE6_4 : stE 6 4 := ⟨by kernel_rfl,by kernel_rfl,by kernel_rfl,by kernel_rfl⟩
theorem nE6_5 : stE 6 5 := ⟨by kernel_rfl,by kernel_rfl,by kernel_rfl,by kernel_rfl⟩
theorem nEs6 : AllL (stE 6) [0,1,2,3,4,5] := ⟨nE6_0,nE6_1,nE6_2,nE6_3,nE6_4,nE6_5,trivial⟩
theorem nE7_0 : stE 7 0 := ⟨by kernel_rfl,by kernel_rfl,by kernel_rfl,by kernel_rfl⟩
theorem nE7_1 : stE 7 1 := ⟨by kernel_rfl,by kernel_rfl,by kernel_rfl,by kernel_rfl⟩
theorem nE7_2 : stE 7 2 := ⟨by kernel_rfl,by kernel_rfl,by kernel_rfl,by kernel_rfl⟩
theorem nE7_3 : stE 7 3 := ⟨by kernel_rfl,by kernel_rfl,by kernel_rfl,by kernel_rfl⟩
theorem nE7_4 : stE 7 4 := ⟨by kernel_rfl,by kernel_rfl,by kernel_rfl,by kernel_rfl⟩
theorem nE7_5 : stE 7 5 := ⟨by kernel_rfl,by kernel_rfl,by kernel_rfl,by kernel_rfl⟩
theorem nE7_6 : stE 7 6 := ⟨by kernel_rfl,by kernel_rfl,by kernel_rfl,by kernel_rfl⟩
theorem nEs7 : AllL (stE 7) [0,1,2,3,4,5,6] := ⟨nE7_0,nE7_1,nE7_2,nE7_3,nE7_4,nE7_5,nE7_6,trivial⟩
theorem nE8_0 : stE 8 0 := ⟨by kernel_rfl,by kernel_rfl,by kernel_rfl,by kernel_rfl⟩
theorem nE8_1 : stE 8 1 := ⟨by kernel_rfl,by kernel_rfl,by kernel_rfl,by kernel_rfl⟩
theorem nE8_2 : stE 8 2 := ⟨by kernel_rfl,by kernel_rfl,by kernel_rfl,by kernel_rfl⟩
theorem nE8_3 : stE 8 3 := ⟨by kernel_rfl,by kernel_rfl,by kernel_rfl,by kernel_rfl⟩
theorem nE8_4 : stE 8 4 := ⟨by kernel_rfl,by kernel_rfl,by kernel_rfl,by kernel_rfl⟩
theorem nE8_5 : stE 8 5 := ⟨by kernel_rfl,by kernel_rfl,by kernel_rfl,by kernel_rfl⟩
theorem nE8_6 : stE 8 6 := ⟨by kernel_rfl,by kernel_rfl,by kernel_rfl,by kernel_rfl⟩
theorem nE8_7 : stE 8 7 := ⟨by kernel_rfl,by kernel_rfl,by kernel_rfl,by kernel_rfl⟩
theorem nEs8 : AllL (stE 8) [0,1,2,3,4,5,6,7] := ⟨nE8_0,nE8_1,nE8_2,nE8_3,nE8_4,nE8_5,nE8_6,nE8_7,trivial⟩
theorem nE9_0 : stE 9 0 := ⟨by kernel_rfl,by kernel_rfl,by kernel_rfl,by kernel_rfl⟩
theorem nE9_1 : stE 9 1 := ⟨by kernel_rfl,by kernel_rfl,by kernel_rfl,by kernel_rfl⟩
theorem nE9_2 : stE 9 2 := ⟨by kernel_rfl,by kernel_rfl,by kernel_rfl,by kernel_rfl⟩
theorem nE9_3 : stE 9 3 := ⟨by kernel_rfl,by kernel_rfl,by kernel_rfl,by kernel_rfl⟩
theorem nE9_4 : stE 9 4 := ⟨by kernel_rfl,by kernel_rfl,by kernel_rfl,by kernel_rfl⟩
theorem nE9_5 : stE 9 5 := ⟨by kernel_rfl,by kernel_rfl,by kernel_rfl,by kernel_rfl⟩
theorem nE9_6 : stE 9 6 := ⟨by kernel_rfl,by kernel_rfl,by kernel_rfl,by kernel_rfl⟩
theorem nE9_7 : stE 9 7 := ⟨by kernel_rfl,by kernel_rfl,by kernel_rfl,by kernel_rfl⟩
theorem nE9_8 : stE 9 8 := ⟨by kernel_rfl,by kernel_rfl,by kernel_rfl,by kernel_rfl⟩
theorem nEs9 : AllL (stE 9) [0,1,2,3,4,5,6,7,8] := ⟨nE9_0,nE9_1,nE9_2,nE9_3,nE9_4,nE9_5,nE9_6,nE9_7,nE9_8,trivial⟩
end Ev
end
section
namespace Ev
set_option autoImplicit false
set_option maxRecDepth 100000
theorem nE10_0 : stE 10 0 := ⟨by kernel_rfl,by kernel_rfl,by kernel_rfl,by kernel_rfl⟩
theorem nE10_1 : stE 10 1 := ⟨by kernel_rfl,by kernel_rfl,by kernel_rfl,by kernel_rfl⟩
theorem nE10_2 : stE 10 2 := ⟨by kernel_rfl,by kernel_rfl,by kernel_rfl,by kernel_rfl⟩
theorem nE10_3 : stE 10 3 := ⟨by kernel_rfl,by kernel_rfl,by kernel_rfl,by kernel_rfl⟩
theorem nE10_4 : stE 10 4 := ⟨by kernel_rfl,by kernel_rfl,by kernel_rfl,by kernel_rfl⟩
theorem nE10_5 : stE 10 5 := ⟨by kernel_rfl,by kernel_rfl,by kernel_rfl,by kernel_rfl⟩
theorem nE10_6 : stE 10 6 := ⟨by kernel_rfl,by kernel_rfl,by kernel_rfl,by kernel_rfl⟩
theorem nE10_7 : stE 10 7 := ⟨by kernel_rfl,by kernel_rfl,by kernel_rfl,by kernel_rfl⟩
theorem nE10_8 : stE 10 8 := ⟨by kernel_rfl,by kernel_rfl,by kernel_rfl,by kernel_rfl⟩
theorem nE10_9 : stE 10 9 := ⟨by kernel_rfl,by kernel_rfl,by kernel_rfl,by kernel_rfl⟩
theorem nEs10 : AllL (stE 10) [0,1,2,3,4,5,6,7,8,9] := ⟨nE10_0,nE10_1,nE10_2,nE10_3,nE10_4,nE10_5,nE10_6,nE10_7,nE10_8,nE10_9,trivial⟩
theorem nE11_0 : stE 11 0 := ⟨by kernel_rfl,by kernel_rfl,by kernel_rfl,by kernel_rfl⟩
theorem nE11_1 : stE 11 1 := ⟨by kernel_rfl,by kernel_rfl,by kernel_rfl,by kernel_rfl⟩
theorem nE11_2 : stE 11 2 := ⟨by kernel_rfl,by kernel_rfl,by kernel_rfl,by kernel_rfl⟩
theorem nE11_3 : stE 11 3 := ⟨by kernel_rfl,by kernel_rfl,by kernel_rfl,by kernel_rfl⟩
theorem nE11_4 : stE 11 4 := ⟨by kernel_rfl,by kernel_rfl,by kernel_rfl,by kernel_rfl⟩
theorem nE11_5 : stE 11 5 := ⟨by kernel_rfl,by kernel_rfl,by kernel_rfl,by kernel_rfl⟩
theorem nE11_6 : stE 11 6 := ⟨by kernel_rfl,by kernel_rfl,by kernel_rfl,by kernel_rfl⟩
theorem nE11_7 : stE 11 7 := ⟨by kernel_rfl,by kernel_rfl,by kernel_rfl,by kernel_rfl⟩
theorem nE11_8 : stE 11 8 := ⟨by kernel_rfl,by kernel_rfl,by kernel_rfl,by kernel_rfl⟩
theorem nE11_9 : stE 11 9 := ⟨by kernel_rfl,by kernel_rfl,by kernel_rfl,by kernel_rfl⟩
theorem nE11_10 : stE 11 10 := ⟨by kernel_rfl,by kernel_rfl,by kernel_rfl,by kernel_rfl⟩
theorem nEs11 : AllL (stE 11) [0,1,2,3,4,5,6,7,8,9,10] := ⟨nE11_0,nE11_1,nE11_2,nE11_3,nE11_4,nE11_5,nE11_6,nE11_7,nE11_8,nE11_9,nE11_10,trivial⟩
theorem nE12_0 : stE 12 0 := ⟨by kernel_rfl,by kernel_rfl,by kernel_rfl,by kernel_rfl⟩
theorem nE12_1 : stE 12 1 := ⟨by kernel_rfl,by kernel_rfl,by kernel_rfl,by kernel_rfl⟩
theorem nE12_2 : stE 12 2 := ⟨by kernel_rfl,by kernel_rfl,by kernel_rfl,by kernel_rfl⟩
theorem nE12_3 : stE 12 3 := ⟨by kernel_rfl,by kernel_rfl,by kernel_rfl,by kernel_rfl⟩
theorem nE12_4 : stE 12 4 := ⟨by kernel_rfl,by kernel_rfl,by kernel_rfl,by kernel_rfl⟩
theorem nE12_5 : stE 12 5 := ⟨by kernel_rfl,by kernel_rfl,by kernel_rfl,by kernel_rfl⟩
theorem nE12_6 : stE 12 6 := ⟨by kernel_rfl,by kernel_rfl,by kernel_rfl,by kernel_rfl⟩
theorem nE12_7 : stE 12 7 := ⟨by kernel_rfl,by kernel_rfl,by kernel_rfl,by kernel_rfl⟩
theorem nE12_8 : stE 12 8 := ⟨by kernel_rfl,by kernel_rfl,by kernel_rfl,by kernel_rfl⟩
theorem nE12_9 : stE 12 9 := ⟨by kernel_rfl,by kernel_rfl,by kernel_rfl,by kernel_rfl⟩
theorem nE12_10 : stE 12 10 := ⟨by kernel_rfl,by kernel_rfl,by kernel_rfl,by kernel_rfl⟩
theorem nE12_11 : stE 12 11 := ⟨by kernel_rfl,by kernel_rfl,by kernel_rfl,by kernel_rfl⟩
theorem nEs12 : AllL (stE 12) [0,1,2,3,4,5,6,7,8,9,10,11] := ⟨nE12_0,nE12_1,nE12_2,nE12_3,nE12_4,nE12_5,nE12_6,nE12_7,nE12_8,nE12_9,nE12_10,nE12_11,trivial⟩
end Ev
end
section
namespace Ev
set_option autoImplicit false
set_option maxRecDepth 100000
theorem nE13_0 : stE 13 0 := ⟨by kernel_rfl,by kernel_rfl,by kernel_rfl,by kernel_rfl⟩
theorem nE13_1 : stE 13 1 := ⟨by kernel_rfl,by kernel_rfl,by kernel_rfl,by kernel_rfl⟩
theorem nE13_2 : stE 13 2 := ⟨by kernel_rfl,by kernel_rfl,by kernel_rfl,by kernel_rfl⟩
theorem nE13_3 : stE 13 3 := ⟨by kernel_rfl,by kernel_rfl,by kernel_rfl,by kernel_rfl⟩
theorem nE13_4 : stE 13 4 := ⟨by kernel_rfl,by kernel_rfl,by kernel_rfl,by kernel_rfl⟩
theorem nE13_5 : stE 13 5 := ⟨by kernel_rfl,by kernel_rfl,by kernel_rfl,by kernel_rfl⟩
theorem nE13_6 : stE 13 6 := ⟨by kernel_rfl,by kernel_rfl,by kernel_rfl,by kernel_rfl⟩
theorem nE13_7 : stE 13 7 := ⟨by kernel_rfl,by kernel_rfl,by kernel_rfl,by kernel_rfl⟩
theorem nE13_8 : stE 13 8 := ⟨by kernel_rfl,by kernel_rfl,by kernel_rfl,by kernel_rfl⟩
theorem nE13_9 : stE 13 9 := ⟨by kernel_rfl,by kernel_rfl,by kernel_rfl,by kernel_rfl⟩
theorem nE13_10 : stE 13 10 := ⟨by kernel_rfl,by kernel_rfl,by kernel_rfl,by kernel_rfl⟩
theorem nE13_11 : stE 13 11 := ⟨by kernel_rfl,by kernel_rfl,by kernel_rfl,by kernel_rfl⟩
theorem nE13_12 : stE 13 12 := ⟨by kernel_rfl,by kernel_rfl,by kernel_rfl,by kernel_rfl⟩
theorem nEs13 : AllL (stE 13) [0,1,2,3,4,5,6,7,8,9,10,11,12] := ⟨nE13_0,nE13_1,nE13_2,nE13_3,nE13_4,nE13_5,nE13_6,nE13_7,nE13_8,nE13_9,nE13_10,nE13_11,nE13_12,trivial⟩
theorem nE14_0 : stE 14 0 := ⟨by kernel_rfl,by kernel_rfl,by kernel_rfl,by kernel_rfl⟩
theorem nE14_1 : stE 14 1 := ⟨by kernel_rfl,by kernel_rfl,by kernel_rfl,by kernel_rfl⟩
theorem nE14_2 : stE 14 2 := ⟨by kernel_rfl,by kernel_rfl,by kernel_rfl,by kernel_rfl⟩
theorem nE14_3 : stE 14 3 := ⟨by kernel_rfl,by kernel_rfl,by kernel_rfl,by kernel_rfl⟩
theorem nE14_4 : stE 14 4 := ⟨by kernel_rfl,by kernel_rfl,by kernel_rfl,by kernel_rfl⟩
theorem nE14_5 : stE 14 5 := ⟨by kernel_rfl,by kernel_rfl,by kernel_rfl,by kernel_rfl⟩
theorem nE14_6 : stE 14 6 := ⟨by kernel_rfl,by kernel_rfl,by kernel_rfl,by kernel_rfl⟩
theorem nE14_7 : stE 14 7 := ⟨by kernel_rfl,by kernel_rfl,by kernel_rfl,by kernel_rfl⟩
theorem nE14_8 : stE 14 8 := ⟨by kernel_rfl,by kernel_rfl,by kernel_rfl,by kernel_rfl⟩
theorem nE14_9 : stE 14 9 := ⟨by kernel_rfl,by kernel_rfl,by kernel_rfl,by kernel_rfl⟩
theorem nE14_10 : stE 14 10 := ⟨by kernel_rfl,by kernel_rfl,by kernel_rfl,by kernel_rfl⟩
theorem nE14_11 : stE 14 11 := ⟨by kernel_rfl,by kernel_rfl,by kernel_rfl,by kernel_rfl⟩
theorem nE14_12 : stE 14 12 := ⟨by kernel_rfl,by kernel_rfl,by kernel_rfl,by kernel_rfl⟩
theorem nE14_13 : stE 14 13 := ⟨by kernel_rfl,by kernel_rfl,by kernel_rfl,by kernel_rfl⟩
theorem nEs14 : AllL (stE 14) [0,1,2,3,4,5,6,7,8,9,10,11,12,13] := ⟨nE14_0,nE14_1,nE14_2,nE14_3,nE14_4,nE14_5,nE14_6,nE14_7,nE14_8,nE14_9,nE14_10,nE14_11,nE14_12,nE14_13,trivial⟩
theorem nE15_0 : stE 15 0 := ⟨by kernel_rfl,by kernel_rfl,by kernel_rfl,by kernel_rfl⟩
theorem nE15_1 : stE 15 1 := ⟨by kernel_rfl,by kernel_rfl,by kernel_rfl,by kernel_rfl⟩
theorem nE15_2 : stE 15 2 := ⟨by kernel_rfl,by kernel_rfl,by kernel_rfl,by kernel_rfl⟩
theorem nE15_3 : stE 15 3 := ⟨by kernel_rfl,by kernel_rfl,by kernel_rfl,by kernel_rfl⟩
theorem nE15_4 : stE 15 4 := ⟨by kernel_rfl,by kernel_rfl,by kernel_rfl,by kernel_rfl⟩
theorem nE15_5 : stE 15 5 := ⟨by kernel_rfl,by kernel_rfl,by kernel_rfl,by kernel_rfl⟩
theorem nE15_6 : stE 15 6 := ⟨by kernel_rfl,by kernel_rfl,by kernel_rfl,by kernel_rfl⟩
theorem nE15_7 : stE 15 7 := ⟨by kernel_rfl,by kernel_rfl,by kernel_rfl,by kernel_rfl⟩
theorem nE15_8 : stE 15 8 := ⟨by kernel_rfl,by kernel_rfl,by kernel_rfl,by kernel_rfl⟩
theorem nE15_9 : stE 15 9 := ⟨by kernel_rfl,by kernel_rfl,by kernel_rfl,by kernel_rfl⟩
theorem nE15_10 : stE 15 10 := ⟨by kernel_rfl,by kernel_rfl,by kernel_rfl,by kernel_rfl⟩
theorem nE15_11 : stE 15 11 := ⟨by kernel_rfl,by kernel_rfl,by kernel_rfl,by kernel_rfl⟩
theorem nE15_12 : stE 15 12 := ⟨by kernel_rfl,by kernel_rfl,by kernel_rfl,by kernel_rfl⟩
theorem nE15_13 : stE 15 13 := ⟨by kernel_rfl,by kernel_rfl,by kernel_rfl,by kernel_rfl⟩
theorem nE15_14 : stE 15 14 := ⟨by kernel_rfl,by kernel_rfl,by kernel_rfl,by kernel_rfl⟩
theorem nEs15 : AllL (stE 15) [0,1,2,3,4,5,6,7,8,9,10,11,12,13,14] := ⟨nE15_0,nE15_1,nE15_2,nE15_3,nE15_4,nE15_5,nE15_6,nE15_7,nE15_8,nE15_9,nE15_10,nE15_11,nE15_12,nE15_13,nE15_14,trivial⟩
end Ev
end
section
namespace Ev
set_option autoImplicit false
set_option maxRecDepth 100000
theorem nE16_0 : stE 16 0 := ⟨by kernel_rfl,by kernel_rfl,by kernel_rfl,by kernel_rfl⟩
theorem nE16_1 : stE 16 1 := ⟨by kernel_rfl,by kernel_rfl,by kernel_rfl,by kernel_rfl⟩
theorem nE16_2 : stE 16 2 := ⟨by kernel_rfl,by kernel_rfl,by kernel_rfl,by kernel_rfl⟩
theorem nE16_3 : stE 16 3 := ⟨by kernel_rfl,by kernel_rfl,by kernel_rfl,by kernel_rfl⟩
theorem nE16_4 : stE 16 4 := ⟨by kernel_rfl,by kernel_rfl,by kernel_rfl,by kernel_rfl⟩
theorem nE16_5 : stE 16 5 := ⟨by kernel_rfl,by kernel_rfl,by kernel_rfl,by kernel_rfl⟩
theorem nE16_6 : stE 16 6 := ⟨by kernel_rfl,by kernel_rfl,by kernel_rfl,by kernel_rfl⟩
theorem nE16_7 : stE 16 7 := ⟨by kernel_rfl,by kernel_rfl,by kernel_rfl,by kernel_rfl⟩
theorem nE16_8 : stE 16 8 := ⟨by kernel_rfl,by kernel_rfl,by kernel_rfl,by kernel_rfl⟩
theorem nE16_9 : stE 16 9 := ⟨by kernel_rfl,by kernel_rfl,by kernel_rfl,by kernel_rfl⟩
theorem nE16_10 : stE 16 10 := ⟨by kernel_rfl,by kernel_rfl,by kernel_rfl,by kernel_rfl⟩
theorem nE16_11 : stE 16 11 := ⟨by kernel_rfl,by kernel_rfl,by kernel_rfl,by kernel_rfl⟩
theorem nE16_12 : stE 16 12 := ⟨by kernel_rfl,by kernel_rfl,by kernel_rfl,by kernel_rfl⟩
theorem nE16_13 : stE 16 13 := ⟨by kernel_rfl,by kernel_rfl,by kernel_rfl,by kernel_rfl⟩
theorem nE16_14 : stE 16 14 := ⟨by kernel_rfl,by kernel_rfl,by kernel_rfl,by kernel_rfl⟩
theorem nE16_15 : stE 16 15 := ⟨by kernel_rfl,by kernel_rfl,by kernel_rfl,by kernel_rfl⟩
theorem nEs16 : AllL (stE 16) [0,1,2,3,4,5,6,7,8,9,10,11,12,13,14,15] := ⟨nE16_0,nE16_1,nE16_2,nE16_3,nE16_4,nE16_5,nE16_6,nE16_7,nE16_8,nE16_9,nE16_10,nE16_11,nE16_12,nE16_13,nE16_14,nE16_15,trivial⟩
theorem nE17_0 : stE 17 0 := ⟨by kernel_rfl,by kernel_rfl,by kernel_rfl,by kernel_rfl⟩
theorem nE17_1 : stE 17 1 := ⟨by kernel_rfl,by kernel_rfl,by kernel_rfl,by kernel_rfl⟩
theorem nE17_2 : stE 17 2 := ⟨by kernel_rfl,by kernel_rfl,by kernel_rfl,by kernel_rfl⟩
theorem nE17_3 : stE 17 3 := ⟨by kernel_rfl,by kernel_rfl,by kernel_rfl,by kernel_rfl⟩
theorem nE17_4 : stE 17 4 := ⟨by kernel_rfl,by kernel_rfl,by kernel_rfl,by kernel_rfl⟩
theorem nE17_5 : stE 17 5 := ⟨by kernel_rfl,by kernel_rfl,by kernel_rfl,by kernel_rfl⟩
theorem nE17_6 : stE 17 6 := ⟨by kernel_rfl,by kernel_rfl,by kernel_rfl,by kernel_rfl⟩
theorem nE17_7 : stE 17 7 := ⟨by kernel_rfl,by kernel_rfl,by kernel_rfl,by kernel_rfl⟩
theorem nE17_8 : stE 17 8 := ⟨by kernel_rfl,by kernel_rfl,by kernel_rfl,by kernel_rfl⟩
theorem nE17_9 : stE 17 9 := ⟨by kernel_rfl,by kernel_rfl,by kernel_rfl,by kernel_rfl⟩
theorem nE17_10 : stE 17 10 := ⟨by kernel_rfl,by kernel_rfl,by kernel_rfl,by kernel_rfl⟩
theorem nE17_11 : stE 17 11 := ⟨by kernel_rfl,by kernel_rfl,by kernel_rfl,by kernel_rfl⟩
theorem nE17_12 : stE 17 12 := ⟨by kernel_rfl,by kernel_rfl,by kernel_rfl,by kernel_rfl⟩
theorem nE17_13 : stE 17 13 := ⟨by kernel_rfl,by kernel_rfl,by kernel_rfl,by kernel_rfl⟩
theorem nE17_14 : stE 17 14 := ⟨by kernel_rfl,by kernel_rfl,by kernel_rfl,by kernel_rfl⟩
theorem nE17_15 : stE 17 15 := ⟨by kernel_rfl,by kernel_rfl,by kernel_rfl,by kernel_rfl⟩
theorem nE17_16 : stE 17 16 := ⟨by kernel_rfl,by kernel_rfl,by kernel_rfl,by kernel_rfl⟩
theorem nEs17 : AllL (stE 17) [0,1,2,3,4,5,6,7,8,9,10,11,12,13,14,15,16] := ⟨nE17_0,nE17_1,nE17_2,nE17_3,nE17_4,nE17_5,nE17_6,nE17_7,nE17_8,nE17_9,nE17_10,nE17_11,nE17_12,nE17_13,nE17_14,nE17_15,nE17_16,trivial⟩
end Ev
end
section
namespace Ev
set_option autoImplicit false
set_option maxRecDepth 100000
theorem nE18_0 : stE 18 0 := ⟨by kernel_rfl,by kernel_rfl,by kernel_rfl,by kernel_rfl⟩
theorem nE18_1 : stE 18 1 := ⟨by kernel_rfl,by kernel_rfl,by kernel_rfl,by kernel_rfl⟩
theorem nE18_2 : stE 18 2 := ⟨by kernel_rfl,by kernel_rfl,by kernel_rfl,by kernel_rfl⟩
theorem nE18_3 : stE 18 3 := ⟨by kernel_rfl,by kernel_rfl,by kernel_rfl,by kernel_rfl⟩
theorem nE18_4 : stE 18 4 := ⟨by kernel_rfl,by kernel_rfl,by kernel_rfl,by kernel_rfl⟩
theorem nE18_5 : stE 18 5 := ⟨by kernel_rfl,by kernel_rfl,by kernel_rfl,by kernel_rfl⟩
theorem nE18_6 : stE 18 6 := ⟨by kernel_rfl,by kernel_rfl,by kernel_rfl,by kernel_rfl⟩
theorem nE18_7 : stE 18 7 := ⟨by kernel_rfl,by kernel_rfl,by kernel_rfl,by kernel_rfl⟩
theorem nE18_8 : stE 18 8 := ⟨by kernel_rfl,by kernel_rfl,by kernel_rfl,by kernel_rfl⟩
theorem nE18_9 : stE 18 9 := ⟨by kernel_rfl,by kernel_rfl,by kernel_rfl,by kernel_rfl⟩
theorem nE18_10 : stE 18 10 := ⟨by kernel_rfl,by kernel_rfl,by kernel_rfl,by kernel_rfl⟩
theorem nE18_11 : stE 18 11 := ⟨by kernel_rfl,by kernel_rfl,by kernel_rfl,by kernel_rfl⟩
theorem nE18_12 : stE 18 12 := ⟨by kernel_rfl,by kernel_rfl,by kernel_rfl,by kernel_rfl⟩
theorem nE18_13 : stE 18 13 := ⟨by kernel_rfl,by kernel_rfl,by kernel_rfl,by kernel_rfl⟩
theorem nE18_14 : stE 18 14 := ⟨by kernel_rfl,by kernel_rfl,by kernel_rfl,by kernel_rfl⟩
theorem nE18_15 : stE 18 15 := ⟨by kernel_rfl,by kernel_rfl,by kernel_rfl,by kernel_rfl⟩
theorem nE18_16 : stE 18 16 := ⟨by kernel_rfl,by kernel_rfl,by kernel_rfl,by kernel_rfl⟩
theorem nE18_17 : stE 18 17 := ⟨by kernel_rfl,by kernel_rfl,by kernel_rfl,by kernel_rfl⟩
theorem nEs18 : AllL (stE 18) [0,1,2,3,4,5,6,7,8,9,10,11,12,13,14,15,16,17] := ⟨nE18_0,nE18_1,nE18_2,nE18_3,nE18_4,nE18_5,nE18_6,nE18_7,nE18_8,nE18_9,nE18_10,nE18_11,nE18_12,nE18_13,nE18_14,nE18_15,nE18_16,nE18_17,trivial⟩
end Ev
end
section
namespace Ev
set_option autoImplicit false
set_option maxRecDepth 100000
theorem nE19_0 : stE 19 0 := ⟨by kernel_rfl,by kernel_rfl,by kernel_rfl,by kernel_rfl⟩
theorem nE19_1 : stE 19 1 := ⟨by kernel_rfl,by kernel_rfl,by kernel_rfl,by kernel_rfl⟩
theorem nE19_2 : stE 19 2 := ⟨by kernel_rfl,by kernel_rfl,by kernel_rfl,by kernel_rfl⟩
theorem nE19_3 : stE 19 3 := ⟨by kernel_rfl,by kernel_rfl,by kernel_rfl,by kernel_rfl⟩
theorem nE19_4 : stE 19 4 := ⟨by kernel_rfl,by kernel_rfl,by kernel_rfl,by kernel_rfl⟩
theorem nE19_5 : stE 19 5 := ⟨by kernel_rfl,by kernel_rfl,by kernel_rfl,by kernel_rfl⟩
theorem nE19_6 : stE 19 6 := ⟨by kernel_rfl,by kernel_rfl,by kernel_rfl,by kernel_rfl⟩
theorem nE19_7 : stE 19 7 := ⟨by kernel_rfl,by kernel_rfl,by kernel_rfl,by kernel_rfl⟩
theorem nE19_8 : stE 19 8 := ⟨by kernel_rfl,by kernel_rfl,by kernel_rfl,by kernel_rfl⟩
theorem nE19_9 : stE 19 9 := ⟨by kernel_rfl,by kernel_rfl,by kernel_rfl,by kernel_rfl⟩
theorem nE19_10 : stE 19 10 := ⟨by kernel_rfl,by kernel_rfl,by kernel_rfl,by kernel_rfl⟩
theorem nE19_11 : stE 19 11 := ⟨by kernel_rfl,by kernel_rfl,by kernel_rfl,by kernel_rfl⟩
theorem nE19_12 : stE 19 12 := ⟨by kernel_rfl,by kernel_rfl,by kernel_rfl,by kernel_rfl⟩
theorem nE19_13 : stE 19 13 := ⟨by kernel_rfl,by kernel_rfl,by kernel_rfl,by kernel_rfl⟩
theorem nE19_14 : stE 19 14 := ⟨by kernel_rfl,by kernel_rfl,by kernel_rfl,by kernel_rfl⟩
theorem nE19_15 : stE 19 15 := ⟨by kernel_rfl,by kernel_rfl,by kernel_rfl,by kernel_rfl⟩
theorem nE19_16 : stE 19 16 := ⟨by kernel_rfl,by kernel_rfl,by kernel_rfl,by kernel_rfl⟩
theorem nE19_17 : stE 19 17 := ⟨by kernel_rfl,by kernel_rfl,by kernel_rfl,by kernel_rfl⟩
theorem nE19_18 : stE 19 18 := ⟨by kernel_rfl,by kernel_rfl,by kernel_rfl,by kernel_rfl⟩
theorem nEs19 : AllL (stE 19) [0,1,2,3,4,5,6,7,8,9,10,11,12,13,14,15,16,17,18] := ⟨nE19_0,nE19_1,nE19_2,nE19_3,nE19_4,nE19_5,nE19_6,nE19_7,nE19_8,nE19_9,nE19_10,nE19_11,nE19_12,nE19_13,nE19_14,nE19_15,nE19_16,nE19_17,nE19_18,trivial⟩
end Ev
end
section
namespace Ev
set_option autoImplicit false
set_option maxRecDepth 100000
theorem nE20_0 : stE 20 0 := ⟨by kernel_rfl,by kernel_rfl,by kernel_rfl,by kernel_rfl⟩
theorem nE20_1 : stE 20 1 := ⟨by kernel_rfl,by kernel_rfl,by kernel_rfl,by kernel_rfl⟩
theorem nE20_2 : stE 20 2 := ⟨by kernel_rfl,by kernel_rfl,by kernel_rfl,by kernel_rfl⟩
theorem nE20_3 : stE 20 3 := ⟨by kernel_rfl,by kernel_rfl,by kernel_rfl,by kernel_rfl⟩
theorem nE20_4 : stE 20 4 := ⟨by kernel_rfl,by kernel_rfl,by kernel_rfl,by kernel_rfl⟩
theorem nE20_5 : stE 20 5 := ⟨by kernel_rfl,by kernel_rfl,by kernel_rfl,by kernel_rfl⟩
theorem nE20_6 : stE 20 6 := ⟨by kernel_rfl,by kernel_rfl,by kernel_rfl,by kernel_rfl⟩
theorem nE20_7 : stE 20 7 := ⟨by kernel_rfl,by kernel_rfl,by kernel_rfl,by kernel_rfl⟩
theorem nE20_8 : stE 20 8 := ⟨by kernel_rfl,by kernel_rfl,by kernel_rfl,by kernel_rfl⟩
theorem nE20_9 : stE 20 9 := ⟨by kernel_rfl,by kernel_rfl,by kernel_rfl,by kernel_rfl⟩
theorem nE20_10 : stE 20 10 := ⟨by kernel_rfl,by kernel_rfl,by kernel_rfl,by kernel_rfl⟩
theorem nE20_11 : stE 20 11 := ⟨by kernel_rfl,by kernel_rfl,by kernel_rfl,by kernel_rfl⟩
theorem nE20_12 : stE 20 12 := ⟨by kernel_rfl,by kernel_rfl,by kernel_rfl,by kernel_rfl⟩
theorem nE20_13 : stE 20 13 := ⟨by kernel_rfl,by kernel_rfl,by kernel_rfl,by kernel_rfl⟩
theorem nE20_14 : stE 20 14 := ⟨by kernel_rfl,by kernel_rfl,by kernel_rfl,by kernel_rfl⟩
theorem nE20_15 : stE 20 15 := ⟨by kernel_rfl,by kernel_rfl,by kernel_rfl,by kernel_rfl⟩
theorem nE20_16 : stE 20 16 := ⟨by kernel_rfl,by kernel_rfl,by kernel_rfl,by kernel_rfl⟩
theorem nE20_17 : stE 20 17 := ⟨by kernel_rfl,by kernel_rfl,by kernel_rfl,by kernel_rfl⟩
theorem nE20_18 : stE 20 18 := ⟨by kernel_rfl,by kernel_rfl,by kernel_rfl,by kernel_rfl⟩
theorem nE20_19 : stE 20 19 := ⟨by kernel_rfl,by kernel_rfl,by kernel_rfl,by kernel_rfl⟩
theorem nEs20 : AllL (stE 20) [0,1,2,3,4,5,6,7,8,9,10,11,12,13,14,15,16,17,18,19] := ⟨nE20_0,nE20_1,nE20_2,nE20_3,nE20_4,nE20_5,nE20_6,nE20_7,nE20_8,nE20_9,nE20_10,nE20_11,nE20_12,nE20_13,nE20_14,nE20_15,nE20_16,nE20_17,nE20_18,nE20_19,trivial⟩
end Ev
end
section
open Go.RowKit
namespace Ev
theorem elT_size (nm : Str) (ks : List T) : (elT nm ks).size = 1 + (ks.map T.size).sum := T.size_eq _
theorem elT_depth (nm : Str) (ks : List T) : (elT nm ks).depth = 1 + (ks.map T.depth).foldr max 0 := T.depth_eq _
theorem elT_bulk (nm : Str) (ks : List T) : (elT nm ks).bulk = 1 + nm.length + 0 + 0 + (ks.map T.bulk).sum := T.bulk_eq _
theorem txT_size (x : Str) : (txT x).size = 1 := T.size_eq _
theorem txT_depth (x : Str) : (txT x).depth = 1 := T.depth_eq _
theorem txT_bulk (x : Str) : (txT x).bulk = 1 + 0 + x.length + 0 + 0 := T.bulk_eq _
theorem elT_ok {nm : Str} {ks : List T} (hn : nameOk nm = true) (hk : ∀ u ∈ ks,nodeOk u = true ∧ u.kind ≠ 5) : nodeOk (elT nm ks) = true := by
 rw [nodeOk_el rfl]
 have : kidsOk (elT nm ks) = true := by
  unfold kidsOk
  rw [List.all_eq_true]
  intro u hu
  obtain ⟨h1,h2⟩ := hk u hu
  rw [h1,decide_eq_false h2]; rfl
 rw [this]
 show (nameOk nm && true && (true && true) && true) = true
 rw [hn]; rfl
theorem txT_ok {x : Str} (hx : x ≠ []) (hl : x.length ≤ 4096) : nodeOk (txT x) = true := by
 rw [nodeOk_ne (t := txT x) (show (3 : Int) ≠ 2 by decide)]
 have h1 : x.isEmpty = false := by cases x with
  |nil => exact absurd rfl hx
  |cons a b => rfl
 show (true && true && (if (3 : Int) = 3 then true && !x.isEmpty && decide (x.length ≤ 4096) else _)) = true
 rw [if_pos rfl,h1,decide_eq_true hl]; rfl
theorem page_check {ks : List T} (hk : ∀ u ∈ ks,nodeOk u = true ∧ u.kind ≠ 5) (hs : (ks.map T.size).sum ≤ 290) (hd : (ks.map T.depth).foldr max 0 ≤ 50) : (pageT [] ks).check = true := by
 have h1 : nodeOk (elT [104,101,97,100] []) = true := elT_ok (by decide) (by simp)
 have h2 : nodeOk (elT [98,111,100,121] ks) = true := elT_ok (by decide) hk
 have h3 : nodeOk (elT [104,116,109,108] [elT [104,101,97,100] [],elT [98,111,100,121] ks]) = true := elT_ok (by decide) fun u hu => by
  simp only [List.mem_cons,List.not_mem_nil,or_false] at hu
  rcases hu with rfl | rfl
  ·exact ⟨h1,by decide⟩
  ·exact ⟨h2,by show (2 : Int) ≠ 5; decide⟩
 have hsz : (pageT [] ks).size = 4 + (ks.map T.size).sum := by
  rw [T.size_eq]
  show 1 + ([elT _ [elT _ [],elT _ ks]].map T.size).sum = _
  simp only [List.map_cons,List.map_nil,List.sum_cons,List.sum_nil,elT_size]; omega
 have hdp : (pageT [] ks).depth ≤ 3 + (ks.map T.depth).foldr max 0 := by
  rw [T.depth_eq]
  show 1 + ([elT _ [elT _ [],elT _ ks]].map T.depth).foldr max 0 ≤ _
  simp only [List.map_cons,List.map_nil,List.foldr_cons,List.foldr_nil,elT_depth]; omega
 have hkk : kidsOk (pageT [] ks) = true := by
  unfold kidsOk
  show ([elT _ [elT _ [],elT _ ks]].all _) = true
  rw [List.all_cons,h3]
  rfl
 unfold T.check
 rw [hkk,decide_eq_true (show (pageT [] ks).size ≤ 300 by omega),decide_eq_true (show (pageT [] ks).depth ≤ 60 by omega)]
 rfl
theorem page_bulk {ks : List T} (h : (ks.map T.bulk).sum ≤ 1000000) : (pageT [] ks).bulk ≤ 1099511627776 := by
 rw [T.bulk_eq]
 show 1 + 0 + 0 + 0 + ([elT _ [elT _ [],elT _ ks]].map T.bulk).sum ≤ _
 simp only [List.map_cons,List.map_nil,List.sum_cons,List.sum_nil,elT_bulk,List.length_cons,List.length_nil]; omega
theorem rowI {A : List Nat} {w : World} {s : Sl} {l : List Int} (h : Row A w s 1 (l.map ic)) {i : Nat} (hi : i < l.length) : s.n = l.length ∧ ∃ p,s.a = some p ∧ w.cell? (p.add (i * 1)) = some (.int .i64 (l.getD i 0)) := by
 refine ⟨by simpa using h.len,?_⟩
 obtain ⟨p,hp,_,hc,_⟩ := h.at_ i (by simpa using hi)
 have e : (l.map ic).getD i [] = ic (l.getD i 0) := by simp [List.getD_eq_getElem?_getD,hi]
 rw [e] at hc
 have h0 := hc 0 _ rfl
 rw [Addr.add_zero'] at h0
 exact ⟨p,hp,h0⟩
end Ev
end
end Go.Proofs.YtenokfdkckhhiaaGreatDoor
