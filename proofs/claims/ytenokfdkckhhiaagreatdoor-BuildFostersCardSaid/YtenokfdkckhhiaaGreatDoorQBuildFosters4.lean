/-
  What the proof of the statement leans on: texts one behind the other.
-/
import Derived.Test.YtenokfdkckhhiaaGreatDoorQBuildFosters3
import Derived.Test.YtenokfdkckhhiaaGreatDoorQBuildFostersGT
import Derived.Test.YtenokfdkckhhiaaGreatDoorQBuildFosters1
import Derived.Test.YtenokfdkckhhiaaGreatDoorQBuildFostersShelf
import Derived.Test.YtenokfdkckhhiaaGreatDoorQBuildFosters0
import Derived.Test.YtenokfdkckhhiaaGreatDoorQBuildFostersGamg
import Derived.Test.YtenokfdkckhhiaaGreatDoorQBuildFostersGblk
import Derived.Test.YtenokfdkckhhiaaGreatDoorQBuildFostersGrun
import Derived.Test.YtenokfdkckhhiaaGreatDoorQBuildFosters2
import Derived.Shelf.RegionOpen
import Derived.LaidEql
import Derived.Lib.Fields
namespace Go.Proofs.YtenokfdkckhhiaaGreatDoor
section
open Go.RowKit Go.Shelf Go.Proofs
attribute [local go_sem] Oper.semAt_some
set_option maxRecDepth 100000 in
theorem samePtr (w : World) (a : Addr) : (binOp .eql 53 (.pointer (some a)) (.pointer (some a))).run Tryz.prog w = .ok (.bool true) w := by
 have he : (Op.equal 53 (.pointer (some a)) (.pointer (some a))).run Tryz.prog w = .ok true w := Ev.run_equal_ptr Tryz.underlying53 ti_56 (by decide) (by apply run_sameAddr_same) 9999
 simp [binOp,he,Result.andThen]
set_option maxRecDepth 100000 in
set_option maxHeartbeats 4000000 in
theorem index0_in (F : Fence) (n : Nat) (h6 : F.fn 152) (hro : F.round = none) (g o len cap q : Nat) (w : World) (hl : 0 < len) (hc : w.cell? ⟨g,o,none⟩ = some (.pointer (some ⟨q,0,none⟩))) :
  CallsIn F n Tryz.prog 152 #[.slice (some ⟨g,o,none⟩) len cap,.pointer (some ⟨q,0,none⟩)] w fun e w' => e = .returned (.int .i64 0) ∧ w' = w := by
 refine callsIn_of_wp Tryz.func152 rfl h6 ?_ hro
 simp only [Tryz.ntmps152,List.size_toArray,List.length_cons,List.length_nil,Nat.reduceAdd,Nat.reduceSub,Array.replicate_succ,Array.replicate_zero,List.push_toArray,List.append_toArray,List.nil_append,List.cons_append]
 have hq := samePtr w ⟨q,0,none⟩
 gi_wp2
 gi_loopw [8] (fun i wr => i = .int .i64 0 ∧ wr = w) (fun _ _ => 0)
 case atStart => exact ⟨rfl,rfl⟩
 case round =>
  obtain ⟨rfl,rfl⟩ := hrel
  gi_wp2
  refine bodyPost_ret (results_tmp rfl _ _ _) rfl ?_
  exact ⟨rfl,rfl⟩
set_option maxRecDepth 100000 in
set_option maxHeartbeats 4000000 in
theorem fostered_in (F : Fence) (n : Nat) (hF : Hid (F = Fence.wide)) (h5 : F.fn 122) (h6 : F.fn 133) (h8 : F.fn 157) (h9 : F.fn 152) (hro : F.round = none) (hn : 5 ≤ n) (bb y off cap jt g o kn kc : Nat) (len : Nat) (pn : Nat → Nat) (nm : Nat → ByteArray) (pb : Nat) (w : World)
  (hbb : bb < w.heap.size) (hy : y < w.heap.size) (hl : len ≤ 1000000)
  (ho : w.cell? ⟨bb,3,none⟩ = some (.slice (some ⟨y,off,none⟩) len cap)) (hz : ∀ j,j < len → w.cell? ⟨y,off + j,none⟩ = some (.pointer (some ⟨pn j,0,none⟩)))
  (hps : ∀ j,j < len → pn j < w.heap.size)
  (hnm : ∀ j,j < len → w.cell? ⟨pn j,2,none⟩ = some (.string (nm j)))
  (hjt : jt < len) (ht : nm jt = ⟨#[116,97,98,108,101]⟩) (hnt : ∀ j,j < len → j ≠ jt → ((nm j).toList == [116,97,98,108,101]) = false)
  (hpar : w.cell? ⟨pn jt,5,none⟩ = some (.pointer (some ⟨pb,0,none⟩))) (hP : pb < w.heap.size)
  (hkids : w.cell? ⟨pb,6,none⟩ = some (.slice (some ⟨g,o,none⟩) kn kc)) (hk0 : 0 < kn) (hg : g < w.heap.size) (hk : w.cell? ⟨g,o,none⟩ = some (.pointer (some ⟨pn jt,0,none⟩))) :
  CallsIn F n Tryz.prog 122 #[.pointer (some ⟨bb,0,none⟩)] w fun e W' => e = .returned (.tuple #[.pointer (some ⟨pb,0,none⟩),.int .i64 0]) ∧ Below w.heap.size w W' := by
 have h1 : 1 ≤ n := by omega
 refine callsIn_of_wp_marks Tryz.func122 rfl h5 ?_ hro
 simp only [Tryz.ntmps122,List.size_toArray,List.length_cons,List.length_nil,Nat.reduceAdd,Nat.reduceSub,Array.replicate_succ,Array.replicate_zero,List.push_toArray,List.append_toArray,List.nil_append,List.cons_append]
 gi_wp2_with (gi_at_call 133; refine (backward_in F (n - 1) h6 hro _ _ _ _).mono ?_; rintro e w' ⟨rfl,rfl⟩)
 obtain ⟨w2,hw2⟩ : ∃ w2,((w.alloc (.cells #[.pointer none] 53)).alloc (.cells #[.int .i64 0] 3)).alloc (.cells #[.slice (some ⟨y,off,none⟩) len cap] 54) = w2 := ⟨_,rfl⟩
 have hB0 : Below w.heap.size w w2 := hw2 ▸ (((Below.refl _ w).alloc (Nat.le_refl _) _).alloc (by simp) _).alloc (by simp; omega) _
 have hs2 : w2.heap.size = w.heap.size + 3 := by rw [← hw2]; simp
 have bR := ((Boxed.new w 53 (.pointer none)).alloc (.cells #[.int .i64 0] 3)).alloc (.cells #[.slice (some ⟨y,off,none⟩) len cap] 54)
 have bI := (Boxed.new (w.alloc (.cells #[.pointer none] 53)) 3 (.int .i64 0)).alloc (.cells #[.slice (some ⟨y,off,none⟩) len cap] 54)
 have hc1 : w2.cell? ⟨w.heap.size + 2,0,none⟩ = some (.slice (some ⟨y,off,none⟩) len cap) := by rw [← hw2]; exact (World.cell?_alloc_at _ _ _ _ (by simp)).trans rfl
 rw [World.size_alloc] at bI
 rw [hw2] at bR bI ⊢
 obtain ⟨zs,hzs⟩ : ∃ zs : List (Option Addr),zs = (List.range len).map fun j => (some ⟨pn j,0,none⟩ : Option Addr) := ⟨_,rfl⟩
 have hzl : zs.length = len := by rw [hzs]; simp
 have hzg : ∀ j,j < len → zs[j]?.getD none = some ⟨pn j,0,none⟩ := fun j hj => by rw [hzs]; simp [hj]
 have hbk : ∀ x,bkw zs x = (len - 1 - x,some ⟨pn (len - 1 - x),0,none⟩) := fun x => by
  unfold bkw
  rw [hzl,hzg _ (by omega)]
 clear hzs
 refine wpIn_rangeFunc_ownG hro h1 (gf := 157) (lb := #[.pointer (some ⟨w.heap.size + 1 + 1,0,none⟩)]) rfl h8 (enters_of Tryz.func157 (by kernel_rfl) rfl)
  (backward_stops F (n - 1) h8 hro (by omega) (w.heap.size + 2) (w.heap.size + 3) y off cap zs (by omega) w2 (by omega) (by omega) (by omega) (by omega) (by rw [hzl]; exact hc1) (fun j hj => ?hz)) belowK_t (belowK_b (by omega)) (Below.refl _ _) (fun _ => rfl)
  (fun pre W => (∀ x ∈ pre,len - 1 - x ≠ jt) ∧ Below w2.heap.size w2 W)
  (fun c pre W => (c = .ret ∧ ∃ ini last,pre = ini ++ [last] ∧ W.cell? ⟨w.heap.size,0,none⟩ = some (.pointer (some ⟨pb,0,none⟩)) ∧ W.cell? ⟨w.heap.size + 1,0,none⟩ = some (.int .i64 0)) ∧ Below w.heap.size w W)
  (OwnFrom.and (Own.from (fun s A B row hs hg hr => hs) _) (ownFrom_below (Nat.le_refl _) (Nat.le_refl _)))
  (fun c => OwnFrom.and (Own.from (fun s A B row hs hg hr => by obtain ⟨hc,ini,last,e1,e2,e3⟩ := hs; exact ⟨hc,ini,last,e1,cell_kept e2 hg hr,cell_kept e3 hg hr⟩) _) (ownFrom_below (Nat.le_refl _) (by omega)))
  ⟨by simp,Below.refl _ _⟩
  (fun x => { tmps := #[.pointer (some ⟨bb,0,none⟩),undef,.pointer (some ⟨w.heap.size,0,none⟩),.pointer (some ⟨w.heap.size + 1,0,none⟩),undef,.pointer ((some ⟨pn (len - 1 - x),0,none⟩)),.pointer (some ⟨bb,0,none⟩),.pointer (some ⟨bb,0,none⟩),.pointer (some ⟨bb,3,none⟩),.slice (some ⟨y,off,none⟩) len cap,.func (.func 157) #[] #[.pointer (some ⟨w.heap.size + 1 + 1,0,none⟩)],.int .i64 ((len - 1 - x : Nat) : Int),.pointer ((some ⟨pn (len - 1 - x),0,none⟩)),undef,undef,undef,undef,undef,undef,undef,undef,undef,undef,undef,undef,undef,undef,undef,undef,undef,undef,undef,undef,undef,undef,undef,undef,undef,undef,undef,undef,undef,undef,undef,undef,undef,undef,undef,undef,undef,undef,undef,undef,undef],defers := [] }) ?assign ?body ?done ?stop
 case hz =>
  rw [hzl] at hj
  rw [hzg j hj]
  exact (hB0.cell (p := ⟨y,off + j,none⟩) hy).trans (hz j hj)
 case assign =>
  as_aux_lemma =>
   intro l x W K hK
   gi_wp2
   exact hK
 case body =>
  rintro l pre x W ⟨hpre,hB⟩ _
  have hBB := hB0.trans (hB.mono (by omega))
  have hmx : Tryz.prog.follows .mixedOrders = true := by kernel_rfl
  have hd : 1 ≤ n - 1 - 1 := by omega
  dsimp only
  obtain ⟨j,hj⟩ : ∃ j,len - 1 - x = j := ⟨_,rfl⟩
  have hjl : j < len := by omega
  rw [hj]
  have g1 : W.cell? ⟨pn j,2,none⟩ = some (.string (nm j)) := (hBB.cell (p := ⟨pn j,2,none⟩) (hps j hjl)).trans (hnm j hjl)
  by_cases hjj : j = jt
  ·subst hjj
   rw [ht] at g1
   have g2 : W.cell? ⟨pn j,5,none⟩ = some (.pointer (some ⟨pb,0,none⟩)) := (hBB.cell (p := ⟨pn j,5,none⟩) (hps j hjl)).trans hpar
   have g3 : W.cell? ⟨pb,6,none⟩ = some (.slice (some ⟨g,o,none⟩) kn kc) := (hBB.cell (p := ⟨pb,6,none⟩) hP).trans hkids
   have g4 : W.cell? ⟨g,o,none⟩ = some (.pointer (some ⟨pn j,0,none⟩)) := (hBB.cell (p := ⟨g,o,none⟩) hg).trans hk
   have bR' : Boxed W w.heap.size 53 (.pointer none) := (hB.block _ (by omega)).trans bR
   have bI' : Boxed W (w.heap.size + 1) 3 (.int .i64 0) := (hB.block _ (by omega)).trans bI
   have hq := samePtr W ⟨pn j,0,none⟩
   have hc1 := bR'.cell
   have hc2 := bI'.cell
   have hf1 := bR'.frozen
   have hf2 := bI'.frozen
   gi_wp2_with (gi_at_call 152; refine (CallsIn.inRound l (index0_in F _ h9 hro g o kn kc (pn j) _ hk0 g4)).mono ?_; rintro e w' ⟨rfl,rfl⟩)
   obtain rfl : F = Fence.wide := hF.out
   refine region_wide (by kernel_rfl) hmx fun W1 hE1 => ?_
   have xR : Box W1 w.heap.size 53 [.pointer none] := Box.ext bR' hE1
   have xI : Box W1 (w.heap.size + 1) 3 [.int .i64 0] := Box.ext bI' hE1
   refine (?_ : Go 54 [(2,.pointer (some ⟨w.heap.size,0,none⟩)),(3,.pointer (some ⟨w.heap.size + 1,0,none⟩)),(5,.pointer (some ⟨pn j,0,none⟩))] W1 W1 [] [(w.heap.size,53,[.pointer none]),(w.heap.size + 1,3,[.int .i64 0])] []
    (W1.cell? ((⟨pn j,0,none⟩ : Addr).add 5) = some (.pointer (some ⟨pb,0,none⟩)) ∧ W1.cell? ((⟨pn j,0,none⟩ : Addr).add 5) = some (.pointer (some ⟨pb,0,none⟩)) ∧ W1.cell? ((⟨pb,0,none⟩ : Addr).add 6) = some (Sl.v ⟨some ⟨g,o,none⟩,kn,kc⟩) ∧ True)
    (PR Tryz.prog _ _ (List.range 0))) _ ⟨⟨rfl,rfl,fun t v hv => ?_⟩,Chg.refl _ _,fun b hb => ?_,by simp,by simp,by simp⟩ ⟨Ext.cell hE1 g2,Ext.cell hE1 g2,Ext.cell hE1 g3,trivial⟩
   ·refine gW 0 13 [(12,rsU (.int .i64 0))] ?_
    refine gM <| Proofs.YtenokfdkckhhiaaGreatDoor.g1 r_nilCheck <| gF 5 Tryz.underlying56 ti_53 <| gL Tryz.underlying53 ?_
    refine gM <| Proofs.YtenokfdkckhhiaaGreatDoor.g1 r_nilCheck <| gF 5 Tryz.underlying56 ti_53 <| gL Tryz.underlying53 ?_
    refine Proofs.YtenokfdkckhhiaaGreatDoor.g1 r_nilCheck <| gF 6 Tryz.underlying56 ti_54 <| gL Tryz.underlying54 <| gM ?_
    refine yc rfl Tryz.func152 (fun w' hE _ => (callsIn_wide.1 (index0_in Fence.wide 0 trivial rfl g o kn kc (pn j) w' hk0 (Ext.cell hE (Ext.cell hE1 g4)))).mono fun e w'' h => by
     obtain ⟨rfl,rfl⟩ := h
     exact ⟨Chg.refl _ _,rfl⟩) (fun _ _ h => ⟨(),h,trivial⟩) fun _ => ?_
    refine eT fun W2 => ?_
    refine gO 13 ?_
    refine wo 0 ti_53 fun W3 => ?_
    refine geO ?_
    refine gO 14 ?_
    refine wo 1 ti_3 fun W4 => ?_
    refine geO ?_
    refine gZ ?_
    intro a' s _
    have y1 := s.box _ (List.mem_cons_self ..)
    have y2 := s.box _ (List.mem_cons_of_mem _ (List.mem_cons_self ..))
    have yc := s.chg
    refine ⟨by simp,?_⟩
    gi_wp2
    have hch : Chg [w.heap.size + 1,w.heap.size] W W4 := (hE1.mono (by simp)).trans yc
    refine ⟨⟨hch.size,fun k o' _ hk ho => ?_⟩,⟨rfl,⟨pre,x,rfl⟩,y1.cell 0 _ rfl,y2.cell 0 _ rfl⟩,hBB.trans ⟨hch.os,hch.tape,hch.output,hch.size,fun k hk => hch.block k (by have := hBB.size; omega) (by simp; omega)⟩⟩
    rcases Classical.em (k ∈ [w.heap.size + 1,w.heap.size]) with hkm | hkm
    ·exfalso
     rcases List.mem_cons.1 hkm with rfl | hkm
     ·rw [show W.heap[w.heap.size + 1]? = _ from bI'] at hk; injection hk with hk; subst hk; cases ho
     ·rw [List.mem_singleton.1 hkm,show W.heap[w.heap.size]? = _ from bR'] at hk; injection hk with hk; subst hk; cases ho
    ·exact (hch.block k (Array.getElem?_eq_some_iff.1 hk).1 hkm).trans hk
   ·have hv' : (bif Nat.beq t 2 then some (Value.pointer (some ⟨w.heap.size,0,none⟩)) else bif Nat.beq t 3 then some (Value.pointer (some ⟨w.heap.size + 1,0,none⟩)) else bif Nat.beq t 5 then some (Value.pointer (some ⟨pn j,0,none⟩)) else none) = some v := hv
    cases e2 : Nat.beq t 2 with
    |true => rw [e2] at hv'; obtain rfl := Nat.eq_of_beq_eq_true e2; injection hv'
    |false =>
     rw [e2] at hv'
     cases e3 : Nat.beq t 3 with
     |true => rw [e3] at hv'; obtain rfl := Nat.eq_of_beq_eq_true e3; injection hv'
     |false =>
      rw [e3] at hv'
      cases e5 : Nat.beq t 5 with
      |true => rw [e5] at hv'; obtain rfl := Nat.eq_of_beq_eq_true e5; injection hv'
      |false => rw [e5] at hv'; cases hv'
   ·simp only [List.mem_cons,List.not_mem_nil,or_false] at hb
    rcases hb with rfl | rfl
    ·exact xR
    ·exact xI
  ·have hne := hnt j hjl hjj
   as_aux_lemma =>
    gi_wp2
    exact ⟨KeepsFrom.refl _ _,Below.refl _ _,fun z hz => (List.mem_append.1 hz).elim (hpre z) (fun e => by simp at e; subst e; omega),hB⟩
 case done =>
  rintro D ys W hD rfl ⟨h,_⟩ hK
  exact absurd (by omega) (h (len - 1 - jt) (by rw [List.mem_range,hzl]; omega))
 case stop =>
  as_aux_lemma =>
   rintro D c pre W hD ⟨k,hk,rfl⟩ ⟨⟨rfl,ini,last,e1,e2,e3⟩,hB⟩ hK
   gi_wp2
   refine ⟨by simp,.inl ⟨_,_,rfl,run_takeDeferred hK,?_⟩⟩
   have hc5 := cell_kept e2 (grownBy_putObj' _ D (.deferred none)) (fun r e => by cases e; exact ⟨_,hK,rfl⟩)
   have hc6 := cell_kept e3 (grownBy_putObj' _ D (.deferred none)) (fun r e => by cases e; exact ⟨_,hK,rfl⟩)
   refine ⟨.tuple #[.pointer (some ⟨pb,0,none⟩),.int .i64 0],?_,rfl,hB.trans (belowK_b (w := w) (Nat.le_refl _) W D _ _ (by omega) hK rfl rfl)⟩
   simp [results,Tryz.f122,go_sem,hc5,hc6]
end
section
namespace Ev
set_option autoImplicit false
open Go.RowKit
noncomputable section
def splitW (s : List Nat) : List (List Nat) := List.rec (fun cur => match cur with | [] => [] | _ => [cur.reverse]) (fun x _ ih cur => cond (Nat.beq x 32) (match cur with | [] => ih [] | _ => cur.reverse :: ih []) (ih (x :: cur))) s []
def asked : List (List Nat) := [[98,97,115,101,32,108,105,110,107,32,109,101,116,97,32,116,105,116,108,101,32,115,116,121,108,101,32,115,99,114,105,112,116,32,110,111,102,114,97,109,101,115],
 [97,100,100,114,101,115,115,32,97,114,116,105,99,108,101,32,97,115,105,100,101,32,98,108,111,99,107,113,117,111,116,101,32,99,101,110,116,101,114,32,100,101,116,97,105,108,115,32,100,105,114,32,100,105,118,32,100,108,32,102,105,101,108,100,115,101,116,32,102,105,103,99,97,112,116,105,111,110,32,102,105,103,117,114,101,32,102,111,111,116,101,114,32,102,111,114,109,32,104,101,97,100,101,114,32,104,103,114,111,117,112,32,109,97,105,110,32,109,101,110,117,32,110,97,118,32,111,108,32,112,114,101,32,115,101,97,114,99,104,32,115,101,99,116,105,111,110,32,115,117,109,109,97,114,121,32,117,108],
 [97,112,112,108,101,116,32,99,97,112,116,105,111,110,32,116,100,32,116,104,32,109,97,114,113,117,101,101,32,111,98,106,101,99,116],[104,49,32,104,50,32,104,51,32,104,52,32,104,53,32,104,54],[97,32,98,32,98,105,103,32,99,111,100,101,32,101,109,32,102,111,110,116,32,105,32,110,111,98,114,32,115,32,115,109,97,108,108,32,115,116,114,105,107,101,32,115,116,114,111,110,103,32,116,116,32,117],[100,100,32,100,116,32,108,105,32,111,112,116,105,111,110,32,112,32,114,112,32,114,116],
 [97,100,100,114,101,115,115,32,97,112,112,108,101,116,32,97,114,101,97,32,97,114,116,105,99,108,101,32,97,115,105,100,101,32,98,97,115,101,32,98,108,111,99,107,113,117,111,116,101,32,98,111,100,121,32,98,114,32,98,117,116,116,111,110,32,99,97,112,116,105,111,110,32,99,101,110,116,101,114,32,99,111,108,32,99,111,108,103,114,111,117,112,32,100,100,32,100,101,116,97,105,108,115,32,100,105,114,32,100,105,118,32,100,108,32,100,116,32,101,109,98,101,100,32,102,105,101,108,100,115,101,116,32,102,105,103,99,97,112,116,105,111,110,32,102,105,103,117,114,101,32,102,111,111,116,101,114,32,102,111,114,109,32,104,49,32,104,50,32,104,51,32,104,52,32,104,53,32,104,54,32,104,101,97,100,32,104,101,97,100,101,114,32,104,103,114,111,117,112,32,104,114,32,104,116,109,108,32,105,102,114,97,109,101,32,105,109,103,32,105,110,112,117,116,32,108,105,32,108,105,110,107,32,109,97,105,110,32,109,97,114,113,117,101,101,32,109,101,110,117,32,109,101,116,97,32,110,97,118,32,110,111,101,109,98,101,100,32,110,111,102,114,97,109,101,115,32,111,98,106,101,99,116,32,111,108,32,112,32,112,97,114,97,109,32,112,114,101,32,115,99,114,105,112,116,32,115,101,97,114,99,104,32,115,101,99,116,105,111,110,32,115,101,108,101,99,116,32,115,111,117,114,99,101,32,115,116,121,108,101,32,115,117,109,109,97,114,121,32,116,97,98,108,101,32,116,98,111,100,121,32,116,100,32,116,101,120,116,97,114,101,97,32,116,102,111,111,116,32,116,104,32,116,104,101,97,100,32,116,105,116,108,101,32,116,114,32,116,114,97,99,107,32,117,108,32,119,98,114,32,120,109,112],
 [97,112,112,108,101,116,32,109,97,114,113,117,101,101,32,111,98,106,101,99,116]]
def inL (s : List Nat) (l : List (List Nat)) : Bool := List.rec false (fun x _ ih => cond (leqL x s) true ih) l
def spF (f : Nat) (vs : List AV) (H : AH) : Option (AV × AH) := cond (Nat.beq f 155) (match vs with
 |[.c (.s s)] => cond (inL s asked) (match splitW s with | l => some (.c (.sl (some (H.nx,0)) l.length l.length 1),H.new 9 (l.map AC.s))) none
 |_ => none) none
theorem asked_ok : (asked.all fun s => ((s.map UInt8.ofNat).all fun b => decide (b.toNat < 128)) && decide (s.length ≤ 1000000) && decide ((Lib.fields (s.map UInt8.ofNat)).map (fun l => l.map UInt8.toNat) = splitW s)) = true := by decide +kernel
theorem inL_mem {s : List Nat} : ∀ {l : List (List Nat)},inL s l = true → s ∈ l
 |[],h => by cases h
 |x :: l,h => by
  replace h : cond (leqL x s) true (inL s l) = true := h
  cases hb : leqL x s with
  |true =>
   rw [leqL_eq] at hb
   rw [of_decide_eq_true hb]; exact List.mem_cons_self ..
  |false => rw [hb] at h; exact List.mem_cons_of_mem _ (inL_mem h)
theorem WP.ext {w w' : World} (h : WP w) (c : Ext w w') : WP w' := by
 have hg : Tryz.prog.globalNamed "strings.asciiSpace" = some 0 := by kernel_rfl
 unfold WP Lib.TabIs World.var? at h ⊢
 rw [hg] at h ⊢
 simp only [Option.bind_some] at h ⊢
 have hlt : 0 < w.heap.size := by
  rcases Nat.lt_or_ge 0 w.heap.size with h' | h'
  ·exact h'
  ·rw [Array.getElem?_eq_none h'] at h; cases h
 rw [c.block _ hlt (by simp)]
 exact h
section
variable [Tx]
theorem HR.table {E : En} {H : AH} {w0 : W0} {w : World} (h : HR E H w0 w) : WP w := by
 have hw := h.wp.1
 have hg : Tryz.prog.globalNamed "strings.asciiSpace" = some 0 := by kernel_rfl
 unfold WP Lib.TabIs World.var? at hw ⊢
 rw [hg] at hw ⊢
 simp only [Option.bind_some] at hw ⊢
 have hlt : 0 < w0.w.heap.size := by
  rcases Nat.lt_or_ge 0 w0.w.heap.size with h' | h'
  ·exact h'
  ·rw [Array.getElem?_eq_none h'] at hw; cases hw
 rw [h.ch.block _ hlt h.wp.2]
 exact hw
theorem spF_ok (G : Nat) : RunOk Tryz.prog G spF := by
 intro f vs H H' v h
 replace h : cond (Nat.beq f 155) (match (generalizing := false) vs with
  |[.c (.s s)] => cond (inL s asked) (match splitW s with | l => some (AV.c (.sl (some (H.nx,0)) l.length l.length 1),H.new 9 (l.map AC.s))) none
  |_ => none) none = some (v,H') := h
 cases hb : Nat.beq f 155 with
 |false => rw [hb] at h; cases h
 |true =>
  rw [hb] at h
  have hf := Nat.eq_of_beq_eq_true hb
  subst hf
  replace h : (match (generalizing := false) vs with
   |[.c (.s s)] => cond (inL s asked) (match splitW s with | l => some (AV.c (.sl (some (H.nx,0)) l.length l.length 1),H.new 9 (l.map AC.s))) none
   |_ => none) = some (v,H') := h
  split at h
  ·rename_i s
   obtain ⟨hin,h⟩ := cond_some h
   injection h with h1 h2; subst h1; subst h2
   refine ⟨⟨_,Tryz.func155,by decide +kernel,rfl⟩,fun {E w0 w args} hG hH hA => ?_⟩
   have hall := List.all_eq_true.1 asked_ok s (inL_mem hin)
   simp only [Bool.and_eq_true,decide_eq_true_eq] at hall
   obtain ⟨⟨a1,a2⟩,a3⟩ := hall
   refine ⟨⟨Nat.le_succ _,fun b hb _ => (AH.get_push _ _ _).trans (if_neg (Nat.ne_of_lt hb))⟩,?_⟩
   match args,hA with
   |[u],.cons hu .nil =>
    obtain ⟨rfl,hby⟩ := hu
    have hT : WP w := hH.table
    have hsz : (Bs (s.map UInt8.ofNat)).size = s.length := by rw [Bs_size]; simp
    refine (Tryz.strings_Fields (Bs (s.map UInt8.ofNat)) w (by rw [hsz]; omega) (fun j b hb => ?_) hT).mono fun e w' ⟨he,hw⟩ => ?_
    ·rw [Bs_data] at hb
     have := List.all_eq_true.1 a1 b (List.mem_of_getElem? hb)
     simpa using this
    ·subst he hw
     rw [Bs_data]
     generalize Lib.fields (s.map UInt8.ofNat) = fl at a3 ⊢
     rw [← a3]
     have hv : ACs E ((fl.map fun l => l.map UInt8.toNat).map AC.s) (fl.map fun l => Value.string ⟨l.toArray⟩) := by
      clear a3
      induction fl with
      |nil => exact .nil
      |cons l r ih =>
       refine .cons ⟨?_,fun n hn => ?_⟩ ih
       ·have e : (l.map UInt8.toNat).map UInt8.ofNat = l := by
         rw [List.map_map]
         conv => rhs; rw [← List.map_id l]
         apply List.map_congr_left
         intro b _
         simp
        rw [e]; rfl
       ·obtain ⟨b,_,rfl⟩ := List.mem_map.1 hn
        exact b.toNat_lt
     have hE := hH.free
     have hp := hH.push (o := .cells 9 ((fl.map fun l => l.map UInt8.toNat).map AC.s) .own) fun _ _ _ _ h => (by cases h)
     have key := hp.real (T' := 9) ((AH.get_push _ _ _).trans (if_pos rfl)) hE (Ext.alloc w (.cells (fl.map fun l => Value.string ⟨l.toArray⟩).toArray 9 (0,0))) (Nat.le_refl _) (Box.alloc w 9 _) (Pre.all2 hv)
     refine ⟨E.add H.nx w.heap.size _,En.le_add hE,fun b p hb => ?_,key,w.heap.size,_,0,fl.length,En.add_same _ _ _ _,?_,?_,?_,.inr rfl,?_⟩
     ·by_cases hbn : b = H.nx
      ·subst hbn; exact .inr (Nat.le_refl _)
      ·rw [En.add_other _ _ _ hbn] at hb; exact .inl hb
     all_goals simp
  ·cases h
end
end
end Ev
end
section
def has (l : List Str) (nm : Str) : Bool := l.any fun s => decide (s = nm)
end
section
open Go.RowKit
def sc (x : Str) : List Value := [.string (Bs x)]
theorem Row.str {A : List Nat} {w : World} {s : Sl} {l : List Str} (h : Row A w s 1 (l.map sc)) {i : Nat} (hi : i < l.length) : ∃ p,s.a = some p ∧ w.cell? (p.add (i * 1)) = some (.string (Bs (l.getD i []))) := by
 obtain ⟨p,hp,_,hc,_⟩ := h.at_ i (by simpa using hi)
 have e : (l.map sc).getD i [] = sc (l.getD i []) := by simp [List.getD_eq_getElem?_getD,hi]
 rw [e] at hc
 have h0 := hc 0 _ rfl
 rw [Addr.add_zero'] at h0
 exact ⟨p,hp,h0⟩
theorem Row.strs {A : List Nat} {w : World} {s : Sl} {l : List Str} (h : Row A w s 1 (l.map sc)) : s.n = l.length ∧ s.n ≤ s.c ∧ s.c ≤ 9223372036854775807 := by
 have h1 := h.len
 have h2 := h.cap
 have h3 := h.most
 simp only [maxLen] at h3
 exact ⟨by simpa using h1,h2,by omega⟩
theorem Box.rowStrL {w : World} {B : Nat} {S : TypeId} {l : List Str} (h : Box w B S (l.map fun x => .string (Bs x))) (hl : l.length ≤ maxLen) {A : List Nat} (hA : B ∉ A) : Row A w (Sl.mk (some ⟨B,0,none⟩) l.length l.length) 1 (l.map sc) := by
 refine ⟨by simp,Nat.le_refl _,hl,fun i hi => ⟨⟨B,0,none⟩,rfl,hA,fun j v hj => ?_,?_⟩⟩
 ·simp only [List.length_map] at hi
  have e : (l.map sc).getD i [] = [.string (Bs (l[i]))] := by simp [List.getD_eq_getElem?_getD,hi,sc]
  rw [e] at hj
  cases j with
  |succ j => simp at hj
  |zero =>
   simp only [List.getElem?_cons_zero,Option.some.injEq] at hj
   subst hj
   rw [Addr.add_add,Addr.add_lit,Nat.mul_one,Nat.add_zero,Nat.zero_add]
   exact h.cell i _ (by simp [hi])
 ·simp only [List.length_map] at hi
  simp [List.getD_eq_getElem?_getD,hi,sc]
end
section
open Go.RowKit
theorem cntF_le : ∀ (l : List UInt8) (ws : Bool),Lib.cntF ws l ≤ l.length
 |[],_ => Nat.le_refl _
 |b :: t,ws => by
  have := cntF_le t (Lib.isSp b)
  simp only [Lib.cntF,List.length_cons]
  split <;> omega
def Sp (w : World) : Prop := Lib.TabIs Tryz.prog w "strings.asciiSpace" .u8 Lib.asciiSpaceTab
theorem fieldsC {w : World} (hT : Sp w) (s : Str) (ha : s.all (fun b => decide (b.toNat < 128)) = true) (hl : s.length ≤ 1000000) :
  Calls Tryz.prog 155 #[.string (Bs s)] w (Ret fun v w' => Ext w w' ∧ ∃ r : Sl,v = r.v ∧ Row [] w' r 1 ((Lib.fields s).map sc)) := by
 refine (Tryz.strings_Fields (Bs s) w (by rw [Bs_size]; omega) (fun j b hb => ?_) hT).mono fun e w' ⟨he,hw⟩ => ?_
 ·rw [Bs_data] at hb
  have := List.all_eq_true.1 ha b (List.mem_of_getElem? hb)
  simpa using this
 ·subst he hw
  rw [Bs_data]
  have hn : (Lib.fields s).length ≤ s.length := by rw [Lib.fields_length]; exact cntF_le s _
  have hb : Box (w.alloc (.cells ((Lib.fields s).map fun l => Value.string ⟨l.toArray⟩).toArray 9)) w.heap.size 9 ((Lib.fields s).map fun x => .string (Bs x)) := Box.alloc _ _ _
  generalize Lib.fields s = l at hb hn
  refine ⟨Ext.alloc _ _,⟨some ⟨w.heap.size,0,none⟩,l.length,l.length⟩,rfl,hb.rowStrL (by simp only [maxLen]; omega) (by simp)⟩
theorem Sp.ext {w w' : World} (h : Sp w) (c : Ext w w') : Sp w' := by
 have hg : Tryz.prog.globalNamed "strings.asciiSpace" = some 0 := by kernel_rfl
 unfold Sp Lib.TabIs World.var? at h ⊢
 rw [hg] at h ⊢
 simp only [Option.bind_some] at h ⊢
 have hlt : 0 < w.heap.size := by
  rcases Nat.lt_or_ge 0 w.heap.size with h' | h'
  ·exact h'
  ·rw [Array.getElem?_eq_none h'] at h; cases h
 rw [c.block _ hlt (by simp)]
 exact h
end
section
open Go.RowKit
theorem amgDrop {l : List Str} {nm : Str} {k : Nat} (h : k < l.length) : has (l.drop k) nm = (decide (l.getD k [] = nm) || has (l.drop (k + 1)) nm) := by
 unfold has
 rw [List.drop_eq_getElem_cons h,List.any_cons,List.getD_eq_getElem?_getD,List.getElem?_eq_getElem h]; rfl
theorem amgC {w : World} (hT : Sp w) (s nm : Str) (ha : s.all (fun b => decide (b.toNat < 128)) = true) (hl : s.length ≤ 1000000) :
  Calls Tryz.prog 128 #[.string (Bs s),.string (Bs nm)] w (Ret fun v w' => Ext w w' ∧ v = .bool (has (Lib.fields s) nm)) := by
 refine stack_among.ok _ _ ?_
 unfold stack_among.vc
 refine CallK.ext (fieldsC hT s ha hl) ?_
 rintro v w0 hE0 ⟨r,rfl,hr⟩
 generalize Lib.fields s = l at hr
 have hs := hr.strs
 refine ⟨r,rfl,fun i w1 => ∃ k : Nat,i = (k : Int) ∧ k ≤ l.length ∧ has l nm = has (l.drop k) nm ∧ Ext w0 w1,fun i _ => l.length - i.toNat,⟨0,rfl,Nat.zero_le _,rfl,Chg.refl _ _⟩,?_⟩
 rintro _ w1 ⟨k,rfl,hk,heq,hE⟩
 rw [Int.toNat_natCast]
 refine ⟨fun hi => ?_,fun hi => ⟨hE0.trans hE,?_⟩⟩
 ·have hk' : k < l.length := by omega
  obtain ⟨p,hp,hc⟩ := (hr.ext hE).str hk'
  rw [amgDrop hk'] at heq
  refine ⟨⟨by omega,hi⟩,p,hp,_,hc,fun he => ⟨hE0.trans hE,?_⟩,fun he => ⟨⟨by omega,by omega⟩,⟨k + 1,by omega,by omega,?_,hE⟩,by dsimp only; omega⟩⟩
  ·rw [heq,decide_eq_true he]; rfl
  ·rw [heq,decide_eq_false he]; rfl
 ·have hkl : k = l.length := by omega
  subst hkl
  rw [heq,List.drop_length]; rfl
namespace Ev
noncomputable section
def spM (f : Nat) (vs : List AV) (H : AH) : Option (AV × AH) := cond (Nat.beq f 128) (match vs with
 |[.c (.s l),.c (.s nm)] => cond (inL l asked) (some (.c (.b (inL nm (splitW l))),H)) none
 |_ => none) (spF f vs H)
theorem has_inL {nm : List Nat} (hn : ∀ n ∈ nm,n < 256) : ∀ fl : List Str,has fl (nm.map UInt8.ofNat) = inL nm (fl.map fun l => l.map UInt8.toNat)
 |[] => rfl
 |x :: fl => by
  show (decide (x = nm.map UInt8.ofNat) || has fl (nm.map UInt8.ofNat)) = cond (leqL (x.map UInt8.toNat) nm) true (inL nm (fl.map fun l => l.map UInt8.toNat))
  rw [has_inL hn fl,leqL_eq]
  have e : decide (x = nm.map UInt8.ofNat) = decide (x.map UInt8.toNat = nm) := by
   apply decide_eq_decide.2
   constructor
   ·intro h; subst h
    rw [List.map_map]
    conv => rhs; rw [← List.map_id nm]
    exact List.map_congr_left fun n h => by
     have := hn n h
     simp only [Function.comp_apply,id_eq,UInt8.toNat_ofNat']
     omega
   ·intro h; rw [← h,List.map_map]
    conv => lhs; rw [← List.map_id x]
    exact List.map_congr_left fun b _ => by simp
  rw [e]
  cases decide (x.map UInt8.toNat = nm) <;> rfl
section
variable [Tx]
theorem spM_ok (G : Nat) : RunOk Tryz.prog G spM := by
 intro f vs H H' v h
 replace h : cond (Nat.beq f 128) (match (generalizing := false) vs with
  |[.c (.s l),.c (.s nm)] => cond (inL l asked) (some (AV.c (.b (inL nm (splitW l))),H)) none
  |_ => none) (spF f vs H) = some (v,H') := h
 cases hb : Nat.beq f 128 with
 |false => rw [hb] at h; exact spF_ok G h
 |true =>
  rw [hb] at h
  have hf := Nat.eq_of_beq_eq_true hb
  subst hf
  replace h : (match (generalizing := false) vs with
   |[.c (.s l),.c (.s nm)] => cond (inL l asked) (some (AV.c (.b (inL nm (splitW l))),H)) none
   |_ => none) = some (v,H') := h
  split at h
  ·rename_i l nm
   obtain ⟨hin,h⟩ := cond_some h
   injection h with h1 h2; subst h1; subst h2
   refine ⟨⟨_,Tryz.func128,by decide +kernel,rfl⟩,fun {E w0 w args} hG hH hA => ⟨Keeps.refl _ _,?_⟩⟩
   have hall := List.all_eq_true.1 asked_ok l (inL_mem hin)
   simp only [Bool.and_eq_true,decide_eq_true_eq] at hall
   obtain ⟨⟨a1,a2⟩,a3⟩ := hall
   match args,hA with
   |[u,t],.cons hu (.cons ht .nil) =>
    obtain ⟨rfl,_⟩ := hu
    obtain ⟨rfl,hn⟩ := ht
    refine (amgC hH.table (l.map UInt8.ofNat) (nm.map UInt8.ofNat) a1 (by simpa using a2)).mono fun e w' hr => ?_
    cases e with
    |returned v =>
     obtain ⟨hE,rfl⟩ := hr
     refine ⟨E,En.le_refl _,fun _ _ h => .inl h,hH.ext hE,?_⟩
     show Value.bool _ = Value.bool _
     rw [has_inL hn,a3]
    |_ => exact hr.elim
  ·cases h
end
end
end Ev
end
section
namespace Ev
set_option autoImplicit false
open Go.RowKit
noncomputable section
theorem and_some {α : Type} {a b : Bool} {x : α} {o : Option α} (h : cond (a && b) o none = some x) : a = true ∧ cond b o none = some x := by
 cases a with
 |false => cases h
 |true => exact ⟨rfl,h⟩
theorem cnd_some {α : Type} {a : Bool} {x : α} {o : Option α} (h : cond a o none = some x) : a = true ∧ o = some x := by
 cases a with
 |false => cases h
 |true => exact ⟨rfl,h⟩
def insN (vs : List AV) (H : AH) : Option (AV × AH) := match vs with
 |[.c (.sl (some (b,o)) n _ es),.c (.i .i64 (.ofNat i)),.c (.sl (some (y,oy)) m _ ey)] => cond (Nat.beq o 0 && (Nat.beq n 1 && (Nat.beq es 1 && (Nat.beq i 0 && (Nat.beq oy 0 && (Nat.beq m 1 && (Nat.beq ey 1 && !(Nat.beq y b)))))))) (match H.at b,H.at y with
  |some (T,[t],_),some (_,[x],.own) => match H.ext T b [x] with
   |some H1 => match H1.wr H.nx 0 [x,t] with
    |some H2 => some (.c (.sl (some (H.nx,0)) 2 2 1),H2)
    |none => none
   |none => none
  |_,_ => none) none
 |_ => none
theorem two_cells {w : World} {B : Nat} {T : TypeId} {a b : Value} {r : List Value} (h : Box w B T (a :: b :: r)) : Box (setCells w B 0 [b,a]) B T (b :: a :: r) ∧ Chg [B] w (setCells w B 0 [b,a]) ∧ Chg [B] (setCells w B 0 [b,a]) w := by
 have h1 := setCells_chg B [b,a] w 0
 have hs : (setCells w B 0 [b,a]).heap.size = w.heap.size := by simp [setCells,World.setCell]
 exact ⟨by simpa [putAt] using setCells_box (o := 0) [b,a] h,h1,h1.os.symm,h1.tape.symm,h1.output.symm,by omega,fun k hk hF => (h1.block k (by omega) hF).symm⟩
theorem box_one {w : World} {B : Nat} {T T' : TypeId} {cs cs' : List Value} (h : Box w B T cs) (k : Box w B T' cs') : cs = cs' ∧ T = T' := by
 unfold Box at h k
 rw [h] at k; injection k with k; injection k with g1 g2 _
 exact ⟨by simpa using g1,g2⟩
section
variable [Tx]
theorem Pre.all2' {E : En} {t x : AC} {vt vx : Value} {r : List Value} (ht : t.v E vt) (hx : x.v E vx) : Pre E ([t] ++ [x]) (vt :: vx :: r) := fun j z hz => by
 match j with
 |0 => simp at hz; subst hz; exact ⟨vt,rfl,ht⟩
 |1 => simp at hz; subst hz; exact ⟨vx,rfl,hx⟩
 |j + 2 => simp at hz
theorem insN_ok {vs : List AV} {H H' : AH} {v : AV} (h : insN vs H = some (v,H')) {E : En} {w0 : W0} {w : World} {args : List Value} (hH : HR E H w0 w) (hA : All2 (AV.v E) vs args) :
  Keeps E H H' ∧ Calls Tryz.prog 123 args.toArray w (Ret fun u w' => Post E H H' w0 v u w') := by
 unfold insN at h
 split at h
 ·rename_i b o n c es i y oy m cy ey
  obtain ⟨a1,h⟩ := and_some h
  obtain ⟨a2,h⟩ := and_some h
  obtain ⟨a3,h⟩ := and_some h
  obtain ⟨a4,h⟩ := and_some h
  obtain ⟨a5,h⟩ := and_some h
  obtain ⟨a6,h⟩ := and_some h
  obtain ⟨a7,h⟩ := and_some h
  obtain ⟨hyb,h⟩ := cnd_some h
  have hyb : y ≠ b := fun e => by subst e; simp at hyb
  split at h
  ·rename_i T t l T2 x hab hay
   split at h
   ·rename_i H1 hx
    split at h
    ·rename_i H2 hw
     injection h with h; injection h with h1 h2; subst h1; subst h2
     obtain rfl := beq_of a1
     obtain rfl := beq_of a2
     obtain rfl := beq_of a3
     obtain rfl := beq_of a4
     obtain rfl := beq_of a5
     obtain rfl := beq_of a6
     obtain rfl := beq_of a7
     obtain ⟨Tb,c2,f0,e0,j⟩ := hH.joined hx
     obtain ⟨l2,hb2,hl2⟩ := j.hb
     rw [hab] at hb2; injection hb2 with hb2; injection hb2 with g1 hb2; injection hb2 with g2 g3
     subst g1; subst g2; subst g3
     match args,hA with
     |[a0,a1,a2],.cons hs (.cons hi (.cons hv .nil)) =>
      obtain ⟨B,S,o',cap,e1,rfl,e2,e3,e4,e5⟩ := hs
      have hi : a1 = .int .i64 ((0 : Nat) : Int) := hi
      subst hi
      obtain ⟨Y,SY,oy',c1,k1,rfl,k2,k3,k4,k5⟩ := hv
      obtain rfl : o' = 0 := by rcases e4 with e | e <;> omega
      obtain rfl : oy' = 0 := by rcases k4 with e | e <;> omega
      obtain ⟨C,Tg,hB,hS,hP,hBm⟩ := hH.box hab e1 hl2
      obtain ⟨CY,Ty,hY,hSY,hPY,_⟩ := hH.box hay k1 (by simp)
      obtain ⟨vt,gt,gt'⟩ := hP 0 t rfl
      obtain ⟨vx,gx,gx'⟩ := hPY 0 x rfl
      obtain ⟨C,rfl⟩ : ∃ C',C = vt :: C' := by cases C <;> simp at gt; subst gt; exact ⟨_,rfl⟩
      obtain ⟨CY,rfl⟩ : ∃ C',CY = vx :: C' := by cases CY <;> simp at gx; subst gx; exact ⟨_,rfl⟩
      have hYB : Y ≠ B := fun e => by
       subst e
       obtain ⟨f,e',T3,c3,T4,c4,g1,g2⟩ := hH.inj y b Y SY S hyb k1 e1 (.inl (by rw [hay]; rfl)) (.inl (by rw [hab]; rfl))
       rw [hay] at g1; cases g1
      have hk1 : Keeps E H H1 := ⟨by rw [j.nx]; omega,fun z hz1 hz2 => j.gx z (by omega) fun e => by subst e; rw [e1] at hz2; cases hz2⟩
      obtain ⟨Tw,cw,lw,cw',aw,lw',ow,rfl⟩ := wr_put hw
      have hk : Keeps E H (H1.put H.nx Tw lw cw' false) := by
       refine ⟨?_,fun z hz1 hz2 => ?_⟩
       ·cases lw <;> first | exact hk1.1 | exact absurd rfl lw'
       ·refine Eq.trans ?_ (hk1.2 z hz1 hz2)
        have hne : z ≠ H.nx := by omega
        cases lw with
        |own => exact (AH.get_set _ _ _ _).trans (if_neg hne)
        |fam f e => exact (AH.get_set _ _ _ _).trans (if_neg hne)
        |ro => exact absurd rfl lw'
      have one : ∀ {a : AC} {u : Value},a.v E u → u.oneCell' = true := fun h => AC.one h
      have hE := hH.free
      refine ⟨hk,(insertNode hB e3 (by simp at hS; omega) hY hYB (one gt') (one gx') k3).mono fun e w' hr => ?_⟩
      have new : ∀ p S' x' q,E.add H.nx p S' x' = some q → E x' = some q ∨ H.nx ≤ x' := fun p S' x' q hp => by
       by_cases hb' : x' = H.nx
       ·exact .inr (by omega)
       ·rw [En.add_other _ _ _ hb'] at hp; exact .inl hp
      cases e with
      |returned u =>
       rcases hr with ⟨f1,rfl,f2,f3⟩ | ⟨G,row,f1,rfl,f2,f3,f4⟩
       ·-- it comes there
        simp only [List.length_cons] at hS
        obtain ⟨a,C,rfl⟩ : ∃ a C',C = a :: C' := by
         cases C with
         |nil => simp at hS; omega
         |cons a C => exact ⟨a,C,rfl⟩
        obtain ⟨g1,g2,g3⟩ := two_cells f3
        have key := hH.joinB j e1 (cs := [vx]) (.cons gx' .nil) (by simp) hB (w' := setCells w' B 0 [vt,vx]) (f2.trans g2) g1
        obtain ⟨C5,T5,b5,_,k5'⟩ := key.wr hw (En.add_same _ _ _ _) (cs := [vx,vt]) (.cons (AC.mono (En.le_add hE) gx') (.cons (AC.mono (En.le_add hE) gt') .nil))
        obtain ⟨rfl,rfl⟩ := box_one b5 g1
        exact ⟨_,En.le_add hE,new B S,k5' w' g3 f3,B,S,0,cap,En.add_same _ _ _ _,rfl,f1,f1,.inr rfl,e5⟩
       ·obtain ⟨g1,g2,g3⟩ := two_cells f3
        have key := (hH.join j).real j.gid hE (w' := setCells w' w.heap.size 0 [vt,vx]) (Chg.fresh f2 g2 (by simp)) (Nat.le_refl _) g1 (Pre.all2' gt' gx')
        obtain ⟨C5,T5,b5,_,k5'⟩ := key.wr hw (En.add_same _ _ _ _) (cs := [vx,vt]) (.cons (AC.mono (En.le_add hE) gx') (.cons (AC.mono (En.le_add hE) gt') .nil))
        obtain ⟨rfl,rfl⟩ := box_one b5 g1
        exact ⟨_,En.le_add hE,new _ _,k5' w' g3 f3,_,_,0,G,En.add_same _ _ _ _,rfl,f1,f1,.inr rfl,by simp; omega⟩
      |_ => exact hr.elim
    ·cases h
   ·cases h
  ·cases h
 ·cases h
def tabL : List Nat := [116,97,98,108,101]
def nmOf (H : AH) (x : AC) : Option (Nat × List Nat) := match x with
 |.p (some (q,o)) => cond (Nat.beq o 0) (match H.rd q 2 1 with
  |some [.s nm] => some (q,nm)
  |_ => none) none
 |_ => none
def tabOf (H : AH) (l : List AC) : Nat → Option (Option (Nat × Nat)) := List.rec (fun _ => some none) (fun x _ ih k => match nmOf H x with
 |some (q,nm) => cond (leqL nm tabL) (match ih (Nat.succ k) with
  |some none => some (some (k,q))
  |_ => none) (ih (Nat.succ k))
 |none => none) l
def fosN (vs : List AV) (H : AH) : Option (AV × AH) := match vs with
 |[.c (.p (some (b,o)))] => cond (Nat.beq o 0) (match H.rd b 3 1 with
  |some [.sl (some (y,oy)) n _ es] => cond (Nat.beq es 1 && Nat.ble n 1000) (match H.rd y oy n with
   |some l => match tabOf H l 0 with
    |some (some (_,q)) => match H.rd q 5 1 with
     |some [.p (some (pb,po))] => cond (Nat.beq po 0) (match H.rd pb 6 1 with
      |some [.sl (some (g,og)) kn _ ek] => cond (Nat.blt 0 kn && Nat.beq ek 1) (match H.rd g og 1 with
       |some [.p (some (q2,o2))] => cond (Nat.beq q2 q && Nat.beq o2 0) (some (.t [(false,[.p (some (pb,0))]),(false,[.i .i64 (.ofNat 0)])],H)) none
       |_ => none) none
      |_ => none) none
     |_ => none
    |_ => none
   |none => none) none
  |_ => none) none
 |_ => none
def raiN (vs : List AV) (H : AH) : Option (AV × AH) := match vs with
 |[.c (.p (some (b,o)))] => cond (Nat.beq o 0) (match H.rd b 3 1 with
  |some [.sl (some (y,oy)) n _ es] => cond (Nat.beq es 1 && Nat.beq n 2) (match H.rd y oy 2 with
   |some [x0,x1] => match nmOf H x0,nmOf H x1 with
    |some (_,n0),some (_,n1) => cond (leqL n0 [104,116,109,108] && leqL n1 [98,111,100,121]) (match H.wr b 5 [.i .i64 (.ofNat 5)] with
     |some H' => some (.t [],H')
     |none => none) none
    |_,_ => none
   |_ => none) none
  |_ => none) none
 |_ => none
end
section
variable {E : En} {H : AH} {w0 : W0} {w : World}
section
variable [Tx]
theorem rd1 (h : HR E H w0 w) {b o B S : Nat} {x : AC} (hr : H.rd b o 1 = some [x]) (he : E b = some (B,S)) : ∃ v,w.cell? ⟨B,o,none⟩ = some v ∧ x.v E v := by
 obtain ⟨cs,h1,h2,h3⟩ := h.rd hr he
 cases h2 with
 |cons hx ht =>
  cases ht
  have := h3 0 _ rfl
  rw [Addr.add_zero'] at this
  exact ⟨_,this,hx⟩
theorem nm_at (h : HR E H w0 w) {x : AC} {q : Nat} {nm : List Nat} {v : Value} (hn : nmOf H x = some (q,nm)) (hv : x.v E v) : ∃ P S,x = .p (some (q,0)) ∧ E q = some (P,S) ∧ v = .pointer (some ⟨P,0,none⟩) ∧ w.cell? ⟨P,2,none⟩ = some (.string (Bs (nm.map UInt8.ofNat))) ∧ ∀ n ∈ nm,n < 256 := by
 unfold nmOf at hn
 split at hn
 ·rename_i q' o
  obtain ⟨h0,hn⟩ := cnd_some hn
  obtain rfl := beq_of h0
  split at hn
  ·rename_i nm' hr
   injection hn with hn; injection hn with h1 h2; subst h1; subst h2
   obtain ⟨P,S,e,rfl⟩ := hv
   obtain ⟨u,h3,h4,h5⟩ := rd1 h hr e
   subst h4
   exact ⟨P,S,rfl,e,rfl,h3,h5⟩
  ·cases hn
 ·cases hn
end
theorem tab_at : ∀ {l : List AC} {k j q : Nat},tabOf H l k = some (some (j,q)) → ∃ i,j = k + i ∧ i < l.length ∧ (∃ x,l[i]? = some x ∧ nmOf H x = some (q,tabL)) ∧ ∀ (m : Nat) (x : AC),l[m]? = some x → ∃ q' nm,nmOf H x = some (q',nm) ∧ (m ≠ i → leqL nm tabL = false) := by
 have none' : ∀ {l : List AC} {k : Nat},tabOf H l k = some none → ∀ (m : Nat) (x : AC),l[m]? = some x → ∃ q' nm,nmOf H x = some (q',nm) ∧ leqL nm tabL = false := by
  intro l
  induction l with
  |nil => intro k _ m x hx; simp at hx
  |cons y l ih =>
   intro k h m x hx
   replace h : (match nmOf H y with
    |some (q,nm) => cond (leqL nm tabL) (match tabOf H l (Nat.succ k) with
     |some none => some (some (k,q))
     |_ => none) (tabOf H l (Nat.succ k))
    |none => none) = some none := h
   split at h
   ·rename_i q nm hn
    cases hb : leqL nm tabL with
    |true => rw [hb] at h; simp only [cond_true] at h; split at h <;> cases h
    |false =>
     rw [hb] at h
     cases m with
     |zero => simp at hx; subst hx; exact ⟨q,nm,hn,hb⟩
     |succ m => exact ih h m x (by simpa using hx)
   ·cases h
 intro l
 induction l with
 |nil => intro k j q h; cases h
 |cons y l ih =>
  intro k j q h
  replace h : (match nmOf H y with
   |some (q,nm) => cond (leqL nm tabL) (match tabOf H l (Nat.succ k) with
    |some none => some (some (k,q))
    |_ => none) (tabOf H l (Nat.succ k))
   |none => none) = some (some (j,q)) := h
  split at h
  ·rename_i q' nm hn
   cases hb : leqL nm tabL with
   |true =>
    rw [hb] at h; simp only [cond_true] at h
    split at h
    ·rename_i hnn
     injection h with h; injection h with h; injection h with h1 h2; subst h1; subst h2
     have e : nm = tabL := by rw [leqL_eq] at hb; simpa using hb
     subst e
     refine ⟨0,rfl,by simp,⟨y,rfl,hn⟩,fun m x hx => ?_⟩
     cases m with
     |zero => simp at hx; subst hx; exact ⟨_,_,hn,fun h => absurd rfl h⟩
     |succ m =>
      obtain ⟨q2,nm2,h1,h2⟩ := none' hnn m x (by simpa using hx)
      exact ⟨q2,nm2,h1,fun _ => h2⟩
    ·cases h
   |false =>
    rw [hb] at h
    obtain ⟨i,h1,h2,⟨x,h3,h4⟩,h5⟩ := ih h
    refine ⟨i + 1,by omega,by simp; omega,⟨x,by simpa using h3,h4⟩,fun m x hx => ?_⟩
    cases m with
    |zero => simp at hx; subst hx; exact ⟨_,_,hn,fun _ => hb⟩
    |succ m =>
     obtain ⟨q2,nm2,h1,h2⟩ := h5 m x (by simpa using hx)
     exact ⟨q2,nm2,h1,fun hne => h2 fun e => hne (by omega)⟩
  ·cases h
theorem nm_ne {nm l : List Nat} (h : leqL nm l = false) (hn : ∀ n ∈ nm,n < 256) (hl : ∀ n ∈ l,n < 256) : ((Bs (nm.map UInt8.ofNat)).toList == l.map UInt8.ofNat) = false := by
 rw [Bs_toL]
 cases hb : (nm.map UInt8.ofNat == l.map UInt8.ofNat) with
 |false => rfl
 |true =>
  have e := eq_of_beq hb
  have back : ∀ l : List Nat,(∀ n ∈ l,n < 256) → (l.map UInt8.ofNat).map UInt8.toNat = l := fun l h => by
   rw [List.map_map]
   conv => rhs; rw [← List.map_id l]
   exact List.map_congr_left fun n hn => by
    have := h n hn
    simp only [Function.comp_apply,id_eq,UInt8.toNat_ofNat']
    omega
  have e2 := congrArg (List.map UInt8.toNat) e
  rw [back _ hn,back _ hl] at e2
  rw [e2,leqL_eq] at h
  simp at h
section
variable [Tx]
theorem fosN_ok {vs : List AV} {H' : AH} {v : AV} (h : fosN vs H = some (v,H')) {args : List Value} (hH : HR E H w0 w) (hA : All2 (AV.v E) vs args) :
  Keeps E H H' ∧ Calls Tryz.prog 122 args.toArray w (Ret fun u w' => Post E H H' w0 v u w') := by
 unfold fosN at h
 split at h
 ·rename_i b o
  obtain ⟨a1,h⟩ := cnd_some h
  split at h
  ·rename_i y oy n c es hr1
   obtain ⟨a2,h⟩ := and_some h
   obtain ⟨hn,h⟩ := cnd_some h
   split at h
   ·rename_i l hr2
    split at h
    ·rename_i jt q ht
     split at h
     ·rename_i pb po hr3
      obtain ⟨a3,h⟩ := cnd_some h
      split at h
      ·rename_i g og kn ck ek hr4
       obtain ⟨hkn,h⟩ := and_some h
       obtain ⟨a4,h⟩ := cnd_some h
       split at h
       ·rename_i q2 o2 hr5
        obtain ⟨a5,h⟩ := and_some h
        obtain ⟨a6,h⟩ := cnd_some h
        injection h with h; injection h with h1 h2; subst h1; subst h2
        obtain rfl := beq_of a1
        obtain rfl := beq_of a2
        obtain rfl := beq_of a3
        obtain rfl := beq_of a4
        obtain rfl := beq_of a5
        obtain rfl := beq_of a6
        refine ⟨Keeps.refl _ _,?_⟩
        match args,hA with
        |[a0],.cons hb .nil =>
         obtain ⟨B,S,e1,rfl⟩ := hb
         obtain ⟨v1,c1,Y,SY,oy',cy,e2,rfl,_,k2,k3,_⟩ := rd1 hH hr1 e1
         obtain ⟨i,rfl,hil,⟨x,hx1,hx2⟩,hall⟩ := tab_at ht
         obtain ⟨cs,hcs,hAC,hcells⟩ := hH.rd hr2 e2
         have hll : l.length = n := by rw [← hcs]; exact (All2.length hAC).symm
         obtain rfl : oy' = oy := by rcases k3 with e | e <;> omega
         have hone : ∀ m,∃ (P : Nat) (nm : ByteArray),m < n → w.cell? ⟨Y,oy' + m,none⟩ = some (.pointer (some ⟨P,0,none⟩)) ∧ w.cell? ⟨P,2,none⟩ = some (.string nm) ∧ (∃ S,m = i → E q2 = some (P,S)) ∧ (m = i → nm = ⟨#[116,97,98,108,101]⟩) ∧ (m ≠ i → (nm.toList == [116,97,98,108,101]) = false) := fun m => by
          by_cases hm : m < n
          ·obtain ⟨q',nm,h1,h2⟩ := hall m _ (List.getElem?_eq_getElem (by omega))
           obtain ⟨u,h3,h4⟩ := All2.get hAC m _ (List.getElem?_eq_getElem (by omega))
           obtain ⟨P,SP,h5,h6,rfl,h7,h8⟩ := nm_at hH h1 h4
           have h9 := hcells m _ h3
           rw [Addr.add_lit] at h9
           refine ⟨P,_,fun _ => ⟨h9,h7,⟨SP,fun hmi => ?_⟩,fun hmi => ?_,fun hmi => nm_ne (h2 hmi) h8 (by decide)⟩⟩
           ·subst hmi
            rw [List.getElem?_eq_getElem (by omega)] at hx1
            injection hx1 with hx1
            rw [hx1,hx2] at h1
            injection h1 with h1; injection h1 with h1 _; subst h1
            exact h6
           ·subst hmi
            rw [List.getElem?_eq_getElem (by omega)] at hx1
            injection hx1 with hx1
            rw [hx1,hx2] at h1
            injection h1 with h1; injection h1 with _ h1; subst h1
            rfl
          ·exact ⟨0,⟨#[]⟩,fun h => absurd h hm⟩
         obtain ⟨pn,hpn⟩ := Classical.axiomOfChoice hone
         obtain ⟨nm,hnm⟩ := Classical.axiomOfChoice hpn
         have hin : i < n := by omega
         obtain ⟨_,hti,⟨Sq,heq⟩,hti2,_⟩ := hnm i hin
         have heq := heq rfl
         obtain ⟨v3,c3,PB,SPB,e3,rfl⟩ := rd1 hH hr3 heq
         obtain ⟨v4,c4,G,SG,og',cg,e4,rfl,_,g2,g3,_⟩ := rd1 hH hr4 e3
         have hkn : 0 < kn := by simpa [Nat.blt_eq] using hkn
         obtain rfl : og' = og := by rcases g3 with e | e <;> omega
         obtain ⟨v5,c5,Q,SQ,e5,rfl⟩ := rd1 hH hr5 e4
         rw [heq] at e5; injection e5 with e5; injection e5 with e5 _
         have key := fostered_in Fence.wide 5 (Lib.hid rfl) trivial trivial trivial trivial rfl (Nat.le_refl _) B Y oy' cy i G og' kn cg n pn nm PB w (World.block_lt_of_cell? w _ c1) (World.block_lt_of_cell? w _ (hnm i hin).1) (by have := Nat.le_of_ble_eq_true hn; omega) c1 (fun j hj => (hnm j hj).1)
          (fun j hj => World.block_lt_of_cell? w _ (hnm j hj).2.1) (fun j hj => (hnm j hj).2.1) hin (hti2 rfl) (fun j hj hne => (hnm j hj).2.2.2.2 hne) c3 (World.block_lt_of_cell? w _ c4) c4 hkn (World.block_lt_of_cell? w _ c5) (by rw [e5]; exact c5)
         refine (callsIn_wide.1 key).mono fun e w' hr => ?_
         obtain ⟨rfl,hB⟩ := hr
         exact ⟨E,En.le_refl _,fun _ _ h => .inl h,hH.ext (Ext.of_below hB),_,rfl,.cons ⟨_,rfl,PB,SPB,e3,rfl⟩ (.cons ⟨_,rfl,rfl⟩ .nil)⟩
       ·cases h
      ·cases h
     ·cases h
    ·cases h
   ·cases h
  ·cases h
 ·cases h
theorem raiN_ok {vs : List AV} {H' : AH} {v : AV} (h : raiN vs H = some (v,H')) {args : List Value} (hH : HR E H w0 w) (hA : All2 (AV.v E) vs args) :
  Keeps E H H' ∧ Calls Tryz.prog 107 args.toArray w (Ret fun u w' => Post E H H' w0 v u w') := by
 unfold raiN at h
 split at h
 ·rename_i b o
  obtain ⟨a1,h⟩ := cnd_some h
  split at h
  ·rename_i y oy n c es hr1
   obtain ⟨a2,h⟩ := and_some h
   obtain ⟨a3,h⟩ := cnd_some h
   split at h
   ·rename_i x0 x1 hr2
    split at h
    ·rename_i q0 n0 q1 n1 hm0 hm1
     obtain ⟨a4,h⟩ := and_some h
     have en0 : n0 = [104,116,109,108] := by rw [leqL_eq] at a4; simpa using a4
     obtain ⟨a5,h⟩ := cnd_some h
     have en1 : n1 = [98,111,100,121] := by rw [leqL_eq] at a5; simpa using a5
     subst en0; subst en1
     split at h
     ·rename_i H2 hw
      injection h with h; injection h with h1 h2; subst h1; subst h2
      obtain rfl := beq_of a1
      obtain rfl := beq_of a2
      obtain rfl := beq_of a3
      match args,hA with
      |[a0],.cons hb .nil =>
       obtain ⟨B,S,e1,rfl⟩ := hb
       refine ⟨wr_keeps hw e1,?_⟩
       obtain ⟨v1,c1,Y,SY,oy',cy,e2,rfl,_,k2,k3,_⟩ := rd1 hH hr1 e1
       obtain rfl : oy' = oy := by rcases k3 with e | e <;> omega
       obtain ⟨cs,hcs,hAC,hcells⟩ := hH.rd hr2 e2
       match cs,hAC with
       |[u0,u1],.cons ha0 (.cons ha1 .nil) =>
        obtain ⟨P0,S0,_,_,rfl,i0,_⟩ := nm_at hH hm0 ha0
        obtain ⟨P1,S1,_,_,rfl,i1,_⟩ := nm_at hH hm1 ha1
        have z0 := hcells 0 _ rfl
        have z1 := hcells 1 _ rfl
        rw [Addr.add_lit] at z0 z1
        obtain ⟨C,T',hBx,hlen,hk⟩ := hH.wr hw e1 (cs := [.int .i64 5]) (.cons rfl .nil)
        have h6 : 5 + 1 ≤ C.length := by simpa using hlen
        have h5 : 5 < C.length := h6
        have key := raise_in Fence.wide 3 trivial trivial trivial rfl (Nat.le_refl _) B Y oy' cy P0 P1 w (World.block_lt_of_cell? w _ c1) (World.block_lt_of_cell? w _ z0) c1 z0 z1 i0 i1 _ (hBx.cell 5 _ (List.getElem?_eq_getElem h5)) (hBx.free 5) (World.block_lt_of_cell? w _ i0) (World.block_lt_of_cell? w _ i1)
        refine (callsIn_wide.1 key).mono fun e w' hr => ?_
        obtain ⟨rfl,w1,b1,b2⟩ := hr
        have hlt := hBx.lt
        have s1 : (w1.setCell ⟨B,5,none⟩ (.int .i64 5)).heap.size = w1.heap.size := by simp [World.setCell]
        have hc1 := Chg.setCell w1 ⟨B,5,none⟩ (.int .i64 5)
        have hchg : Chg [B] w w' := ⟨b2.os.trans (hc1.os.trans b1.os),b2.tape.trans (hc1.tape.trans b1.tape),b2.output.trans (hc1.output.trans b1.output),by have := b1.size; have := b2.size; omega,fun k hk hF => (b2.block k hk).trans ((hc1.block k (by have := b1.size; omega) hF).trans (b1.block k hk))⟩
        have hbx1 : Box w1 B T' C := (b1.block B hlt).trans hBx
        have hbx2 : Box w' B T' (putAt C 5 [.int .i64 5]) := (b2.block B hlt).trans (hbx1.setCell 5 (.int .i64 5))
        exact ⟨E,En.le_refl _,fun _ _ h => .inl h,hk w' hchg hbx2,[],rfl,.nil⟩
     ·cases h
    ·cases h
   ·cases h
  ·cases h
 ·cases h
end
end
def blkN (vs : List AV) (H : AH) : Option (AV × AH) := match vs with
 |[.a [.i .i64 (.ofNat k),.s _,.tx _ [],.sl none _ _ _,.b _]] => cond (Nat.beq k 3) (some (.c (.b false),H)) none
 |_ => none
theorem blankRune {w : World} (c : Int) : Calls Tryz.prog 124 #[.int .u8 c] w (Ret fun v w' => Ext w w' ∧ v = .bool ((((decide (c = 9)) || (decide (c = 10))) || (decide (c = 12))) || (decide (c = 32)))) := by
 refine runes_Blank.ok _ ?_
 unfold runes_Blank.vc
 exact ⟨Chg.refl _ _,rfl⟩
section
variable [Tx]
theorem blkN_ok {vs : List AV} {H H' : AH} {v : AV} (h : blkN vs H = some (v,H')) {E : En} {w0 : W0} {w : World} {args : List Value} (hH : HR E H w0 w) (hA : All2 (AV.v E) vs args) :
  Keeps E H H' ∧ Calls Tryz.prog 94 args.toArray w (Ret fun u w' => Post E H H' w0 v u w') := by
 unfold blkN at h
 split at h
 ·rename_i k nm n _ _ _ raw
  obtain ⟨hk,h⟩ := cnd_some h
  obtain rfl := Nat.eq_of_beq_eq_true hk
  injection h with h; injection h with h1 h2; subst h1; subst h2
  refine ⟨Keeps.refl _ _,?_⟩
  match args,hA with
  |[a0],.cons ha .nil =>
   obtain ⟨cs,rfl,hc⟩ := ha
   cases hc with | cons u1 hc =>
   cases hc with | cons u2 hc =>
   cases hc with | cons u3 hc =>
   cases hc with | cons u4 hc =>
   cases hc with | cons u5 hc =>
   cases hc
   cases u1
   obtain ⟨rfl,_⟩ := u2
   obtain ⟨rfl,_⟩ := u3
   obtain ⟨_,_,rfl⟩ := u4
   cases u5
   obtain ⟨c,r,et,h9,h10,h12,h32⟩ := Tx.ok n
   rw [List.map_nil,List.nil_append,et]
   refine build_blank.ok (3 : Int) _ (c :: r) Sl.nil raw ?_
   unfold build_blank.vc
   refine ⟨fun h => absurd rfl h,fun _ => fun w3 B2 _ hE => ?_⟩
   refine ⟨fun i w' => i = 0 ∧ Ext w w',fun _ _ => 0,⟨rfl,hE⟩,?_⟩
   rintro _ w4 ⟨rfl,hE4⟩
   refine ⟨fun _ => ⟨⟨by omega,by simp only [List.length_cons]; omega⟩,?_⟩,fun h => absurd (by simp only [List.length_cons]; omega) h⟩
   refine CallK.exact (blankRune _) fun w5 hE5 => ⟨_,rfl,fun _ => ⟨E,En.le_refl _,fun _ _ h => .inl h,hH.ext (hE4.trans hE5),rfl⟩,fun hb => ?_⟩
   exfalso
   have n9 : ∀ k : Nat,k < 256 → c ≠ UInt8.ofNat k → ¬ ((c.toNat : Int) = (k : Int)) := fun k hk hne e => hne (by
    have e : c.toNat = k := by omega
    rw [← e]; simp)
   have e0 : (((c :: r).getD (0 : Int).toNat 0).toNat : Int) = (c.toNat : Int) := rfl
   rw [e0] at hb
   have a9 := n9 9 (by decide) h9
   have a10 := n9 10 (by decide) h10
   have a12 := n9 12 (by decide) h12
   have a32 := n9 32 (by decide) h32
   simp only [Bool.or_eq_true,decide_eq_true_eq] at hb
   rcases hb with ((hb | hb) | hb) | hb
   ·exact a9 hb
   ·exact a10 hb
   ·exact a12 hb
   ·exact a32 hb
 ·cases h
def spX (f : Nat) (vs : List AV) (H : AH) : Option (AV × AH) := cond (Nat.beq f 94) (blkN vs H) (cond (Nat.beq f 123) (insN vs H)
 (cond (Nat.beq f 122) (fosN vs H) (cond (Nat.beq f 107) (raiN vs H) (spM f vs H))))
theorem spX_ok (G : Nat) : RunOk Tryz.prog G spX := by
 intro f vs H H' v h
 unfold spX at h
 cases h0 : Nat.beq f 94 with
 |true =>
  rw [h0] at h
  obtain rfl := beq_of h0
  exact ⟨⟨_,Tryz.func94,by decide +kernel,rfl⟩,fun _ hH hA => blkN_ok h hH hA⟩
 |false =>
 rw [h0] at h
 cases h1 : Nat.beq f 123 with
 |true =>
  rw [h1] at h
  obtain rfl := beq_of h1
  exact ⟨⟨_,Tryz.func123,by decide +kernel,rfl⟩,fun _ hH hA => insN_ok h hH hA⟩
 |false =>
  rw [h1] at h
  cases h2 : Nat.beq f 122 with
  |true =>
   rw [h2] at h
   obtain rfl := beq_of h2
   exact ⟨⟨_,Tryz.func122,by decide +kernel,rfl⟩,fun _ hH hA => fosN_ok h hH hA⟩
  |false =>
   rw [h2] at h
   cases h3 : Nat.beq f 107 with
   |true =>
    rw [h3] at h
    obtain rfl := beq_of h3
    exact ⟨⟨_,Tryz.func107,by decide +kernel,rfl⟩,fun _ hH hA => raiN_ok h hH hA⟩
   |false => rw [h3] at h; exact spM_ok G h
end
end
end Ev
end
section
namespace Ev
set_option autoImplicit false
open Go.RowKit
noncomputable section
def H00 : AH := ⟨0,.nil,.nil⟩
def good (r : Option (AV × AH)) : Bool := match r with
 |some (.c (.b true),_) => true
 |_ => false
def spP (f : Nat) (vs : List AV) (H : AH) : Option (AV × AH) := cond (Nat.beq f 15) (match vs with
 |[.c (.qu n r),.c (.i .i64 (.ofNat m))] => cond (Nat.beq n m && Nat.blt 0 n && Nat.ble n 1000) (some (.c (.i .i64 (.ofNat r)),H)) none
 |_ => none) (spX f vs H)
section
variable [Tx]
theorem HR.start {w : World} (h : WP w) : HR (fun _ => none) H00 (W0.all w) w := by
 refine ⟨⟨h,id⟩,Kept.refl _,fun b p he => (by cases he),fun b o hg => ?_,fun f p hf => ?_,fun b T c f e hg => ?_,fun b T c f e ha => ?_,fun b T c l B S _ he => (by cases he),fun b es cl B S _ he => (by cases he),fun b b' B S S' _ he => (by cases he),fun b v B S _ he => (by cases he)⟩
 ·cases hg
 ·cases hf
 ·cases hg
 ·cases ha
end
theorem names_ok : Tryz.prog.funcs.all (fun fn => !(fn.name == "runtime.NumGoroutine")) = true := by decide +kernel
section
variable [Tx]
theorem spP_ok : RunOk Tryz.prog 0 spP := by
 intro f vs H H' v h
 replace h : cond (Nat.beq f 15) (match (generalizing := false) vs with
  |[.c (.qu n r),.c (.i .i64 (.ofNat m))] => cond (Nat.beq n m && Nat.blt 0 n && Nat.ble n 1000) (some (AV.c (.i .i64 (.ofNat r)),H)) none
  |_ => none) (spX f vs H) = some (v,H') := h
 cases hb : Nat.beq f 15 with
 |false => rw [hb] at h; exact spX_ok 0 h
 |true =>
  rw [hb] at h
  have hf := Nat.eq_of_beq_eq_true hb
  subst hf
  replace h : (match (generalizing := false) vs with
   |[.c (.qu n r),.c (.i .i64 (.ofNat m))] => cond (Nat.beq n m && Nat.blt 0 n && Nat.ble n 1000) (some (AV.c (.i .i64 (.ofNat r)),H)) none
   |_ => none) = some (v,H') := h
  split at h
  ·rename_i n r m
   obtain ⟨hin,h⟩ := cond_some h
   injection h with h1 h2; subst h1; subst h2
   simp only [Bool.and_eq_true,Nat.ble_eq,Nat.blt_eq] at hin
   obtain ⟨⟨e1,e2⟩,e3⟩ := hin
   have e1 := Nat.eq_of_beq_eq_true e1
   subst e1
   refine ⟨⟨_,Tryz.func15,by decide +kernel,rfl⟩,fun {E w0 w args} hG hH hA => ⟨Keeps.refl _ _,?_⟩⟩
   match args,hA with
   |[u,t],.cons hu (.cons ht .nil) =>
    obtain ⟨x,rfl,hx⟩ := hu
    have ht : t = .int .i64 ((n : Nat) : Int) := ht
    subst ht
    refine (place x (n : Int) (by omega) (by omega)).mono fun e w' hr => ?_
    cases e with
    |returned v =>
     obtain ⟨hE,rfl⟩ := hr
     exact ⟨E,En.le_refl _,fun _ _ h => .inl h,hH.ext hE,by show Value.int .i64 (x % (n : Int)) = _; rw [hx]; rfl⟩
    |_ => exact hr.elim
  ·cases h
theorem fnC_ok {f : Nat} {fn : Func} {cf : CF} (Z : List Nat) (hf : Tryz.prog.funcs[f]? = some fn) (hz : (Nat.ble (fn.params.size + fn.nfree) 256 && Z.all fun t => Nat.ble (fn.params.size + fn.nfree) t) = true) (h : compF Tryz.prog 0 Z fn = some cf) : FnR Tryz.prog 0 f cf := compF_ok (by kernel_rfl) names_ok hf hz h
def deep : Nat := 200
def runT (t : FT) : Run := runF spP t.find deep
theorem runT_ok {t : FT} (ht : t.Ok (FnR Tryz.prog 0)) : RunOk Tryz.prog 0 (runT t) := run_sound (fun _ _ h => FT.find_ok ht h) spP_ok deep
theorem closed_true {t : FT} (ht : t.Ok (FnR Tryz.prog 0)) {f : FuncId} {vs : List AV} {args : List Value} {w : World} (hw : WP w) (hvs : All2 (AV.v fun _ => none) vs args) (h : good (runT t f vs H00) = true) : Calls Tryz.prog f args.toArray w (Ret fun v w' => Ext w w' ∧ v = .bool true) := by
 unfold good at h
 split at h
 ·rename_i H' hr
  obtain ⟨_,hb⟩ := runT_ok ht hr
  refine (hb (fun g hg => absurd hg (Nat.not_lt_zero g)) (HR.start hw) hvs).2.mono fun e w' hx => ?_
  cases e with
  |returned v =>
   obtain ⟨E',_,_,h3,h4⟩ := hx
   exact ⟨h3.ch.ext,h4⟩
  |_ => exact hx.elim
 ·cases h
end
end
end Ev
end
section
namespace Ev
set_option autoImplicit false
noncomputable section
def F0 (w : World) (F : List Nat) : W0 := ⟨w,fun b => b ∈ F⟩
theorem Kept.chg {w w' : World} {F : List Nat} (h : Kept (F0 w F) w') : Chg F w w' := ⟨h.os,h.tape,h.output,h.size,h.block⟩
section
variable {E : En} {H H' S S' : AH} {w0 : W0} {w w' : World} {F : List Nat} {b : Nat}
section
variable [Tx]
theorem HR.rebase (h : HR E H w0 w) (hF : ∀ n p,E n = some p → p.1 ∈ F) (hF2 : ∀ k,k < w.heap.size → w0.may k → k ∈ F) (ht : 0 ∉ F) : HR E H (F0 w F) w :=
 ⟨⟨h.table,ht⟩,Kept.refl _,h.dom,h.key,h.fkey,h.bf,h.las,fun b T c l B S ha he => by
  obtain ⟨C,T',fz,h1,h2,h3,h4⟩ := h.cel b T c l B S ha he
  exact ⟨C,T',fz,h1,h2,h3,fun hl => ⟨(h4 hl).1,.inr (hF _ _ he)⟩⟩,fun b es cl B S hg he => ⟨.inr (hF _ _ he),(h.mp b es cl B S hg he).2⟩,h.inj,fun b v B S hg he => by
  obtain ⟨K,h1,h2,h3,h4⟩ := h.ls b v B S hg he
  exact ⟨K,h1,h2,h3,fun k hk => ⟨(h4 k hk).1,.inr (hF2 k (h4 k hk).1 (h4 k hk).2)⟩⟩⟩
end
theorem table_lt (h : WP w) : 0 < w.heap.size := by
 have hg : Tryz.prog.globalNamed "strings.asciiSpace" = some 0 := by kernel_rfl
 unfold WP Lib.TabIs World.var? at h
 rw [hg] at h
 simp only [Option.bind_some] at h
 rcases Nat.lt_or_ge 0 w.heap.size with h' | h'
 ·exact h'
 ·rw [Array.getElem?_eq_none h'] at h; cases h
section
variable [Tx]
structure BSE (E : En) (S : AH) (F : List Nat) (b : Nat) (w : World) : Prop where
 fst : ∃ n,E 0 = some (b,n)
 mem : ∀ n p,E n = some p → p.1 ∈ F
 hr : HR E S (F0 w F) w
 lt : ∀ x ∈ F,x < w.heap.size
def BSt (S : AH) (F : List Nat) (b : Nat) (w : World) : Prop := ∃ E,BSE E S F b w
theorem BSE.tab (h : BSE E S F b w) : 0 ∉ F := h.hr.wp.2
theorem HR.chg {G : List Nat} (h : HR E H (F0 w F) w) (hF : ∀ n p,E n = some p → p.1 ∈ F) (c : Chg G w w') (hG : ∀ x ∈ F,x ∉ G) (ht : 0 ∉ G) : HR E H (F0 w' F) w' := by
 have keep : ∀ {B : Nat} {o : Obj},B ∉ G → w.heap[B]? = some o → w'.heap[B]? = some o := fun hB hb => by
  rw [c.block _ (Array.getElem?_eq_some_iff.1 hb).1 hB]; exact hb
 have hw : WP w' := by
  have hw := h.table
  have hlt := table_lt hw
  have hg : Tryz.prog.globalNamed "strings.asciiSpace" = some 0 := by kernel_rfl
  unfold WP Lib.TabIs World.var? at hw ⊢
  rw [hg] at hw ⊢
  simp only [Option.bind_some] at hw ⊢
  rw [c.block _ hlt ht]
  exact hw
 refine ⟨⟨hw,h.wp.2⟩,Kept.refl _,h.dom,h.key,h.fkey,h.bf,h.las,fun b T c' l B S ha he => ?_,fun b es cl B S hg he => ?_,h.inj,fun b v B S hg he => by
  obtain ⟨K,h1,h2,h3,h4⟩ := h.ls b v B S hg he
  have hk : ∀ k ∈ K,k ∈ F := fun k hk => by
   rcases (h4 k hk).2 with h5 | h5
   ·exact absurd (h4 k hk).1 (Nat.not_lt.2 h5)
   ·exact h5
  exact ⟨K,h1,Tx.L_chg h2 c fun x hx hxk => hG x (hk x hxk) hx,h3,fun k hk' => ⟨Nat.lt_of_lt_of_le (h4 k hk').1 c.size,.inr (hk k hk')⟩⟩⟩
 ·obtain ⟨C,T',fz,h1,h2,h3,h4⟩ := h.cel b T c' l B S ha he
  exact ⟨C,T',fz,keep (hG _ (hF _ _ he)) h1,h2,h3,fun hl => ⟨(h4 hl).1,.inr (hF _ _ he)⟩⟩
 ·obtain ⟨_,ms,h1,h2⟩ := h.mp b es cl B S hg he
  exact ⟨.inr (hF _ _ he),ms,keep (hG _ (hF _ _ he)) h1,h2⟩
theorem BSE.chg {G : List Nat} (h : BSE E S F b w) (c : Chg G w w') (hG : ∀ x ∈ F,x ∉ G) (ht : 0 ∉ G) : BSE E S F b w' :=
 ⟨h.fst,h.mem,h.hr.chg h.mem c hG ht,fun x hx => Nat.lt_of_lt_of_le (h.lt x hx) c.size⟩
theorem BSE.ext (h : BSE E S F b w) (c : Ext w w') : BSE E S F b w' := h.chg c (by simp) (by simp)
theorem BSt.ext (h : BSt S F b w) (c : Ext w w') : BSt S F b w' := ⟨_,h.choose_spec.ext c⟩
theorem BSE.cell (h : BSE E S F b w) {T : Nat} {c : List AC} {l : Lk} (ha : S.at 0 = some (T,c,l)) {j : Nat} {x : AC} (hx : c[j]? = some x) : ∃ v,w.cell? ⟨b,j,none⟩ = some v ∧ x.v E v := by
 obtain ⟨n,h1⟩ := h.fst
 obtain ⟨C,T',fz,g1,g2,g3,_⟩ := h.hr.cel 0 T c l b n ha h1
 obtain ⟨v,hv,k⟩ := g3 j x hx
 exact ⟨v,by simp [World.cell?,g1,hv],k⟩
def BPost (E : En) (F : List Nat) (b : Nat) (w : World) (ns : List Nat) (S' : AH) (v : AV) (u : Value) (w' : World) : Prop :=
 Chg F w w' ∧ ∃ F' E' E1,BSE E' S' F' b w' ∧ (∀ x ∈ F',x ∈ F ∨ w.heap.size ≤ x) ∧ E.le E1 ∧ v.v E1 u ∧ ∀ x x' y,renV ns x = some x' → x.v E1 y → x'.v E' y
theorem BSE.call {run : Run} (hrun : RunOk Tryz.prog 0 run) {f : FuncId} {vs : List AV} {args : List Value} {v : AV} {ns : List Nat} (h : BSE E S F b w) (ha : All2 (AV.v E) vs args)
  (he : run f vs S = some (v,H')) (hg : gcH (0 :: ns) H' = some S') : Calls Tryz.prog f args.toArray w (Ret fun u w' => BPost E F b w (0 :: ns) S' v u w') := by
 obtain ⟨n,h1⟩ := h.fst
 have hH := h.hr
 have htab := h.tab
 have hwlt := table_lt hH.table
 obtain ⟨_,hb⟩ := hrun he
 refine (hb (fun g hg => absurd hg (Nat.not_lt_zero g)) hH ha).2.mono fun e w' hx => ?_
 cases e with
 |returned u =>
  obtain ⟨E1,hle,_,hH1,hv⟩ := hx
  have hR := gcH_ok hg hH1
  obtain ⟨_,hnx,_,_⟩ := gcH_get hg
  have hblk : ∀ k p,enR (0 :: ns) E1 k = some p → (p.1 ∈ F ∨ w.heap.size ≤ p.1) ∧ p.1 < w'.heap.size := fun k p hp => by
   have hk := hR.dom k p hp
   rcases gcH_at hg (by rw [← hnx]; exact hk) with ⟨T,c,hat⟩ | ⟨lv,hat⟩
   ·obtain ⟨C,T',fz,g1,_,_,g4⟩ := hR.cel k T c .own p.1 p.2 hat hp
    refine ⟨?_,(Array.getElem?_eq_some_iff.1 g1).1⟩
    rcases (g4 (by simp)).2 with h | h
    ·exact .inr h
    ·exact .inl h
   ·obtain ⟨K,g1,_,_,g4⟩ := hR.ls k lv p.1 p.2 hat hp
    obtain ⟨g5,g6⟩ := g4 p.1 g1
    refine ⟨?_,g5⟩
    rcases g6 with h | h
    ·exact .inr h
    ·exact .inl h
  have hmem : ∀ x,x ∈ (List.range w'.heap.size).filter (fun x => decide (x ∈ F ∨ w.heap.size ≤ x)) ↔ x < w'.heap.size ∧ (x ∈ F ∨ w.heap.size ≤ x) := fun x => by simp
  refine ⟨hH1.ch.chg,(List.range w'.heap.size).filter (fun x => decide (x ∈ F ∨ w.heap.size ≤ x)),enR (0 :: ns) E1,E1,⟨⟨n,?_⟩,fun k p hp => (hmem _).2 ⟨(hblk k p hp).2,(hblk k p hp).1⟩,?_,fun x hx => ((hmem x).1 hx).1⟩,fun x hx => ((hmem x).1 hx).2,hle,hv,fun x x' y h1 h2 => renV_ok h1 h2⟩
  ·show E1 0 = _
   exact hle _ _ h1
  ·refine hR.rebase (fun k p hp => (hmem _).2 ⟨(hblk k p hp).2,(hblk k p hp).1⟩) (fun k hk hm => (hmem k).2 ⟨hk,hm.symm⟩) fun hm => ?_
   rcases ((hmem _).1 hm).2 with h | h
   ·exact htab h
   ·omega
 |_ => exact hx.elim
end
end
def ptrsA : AC → List Nat
 |.p (some (b,_)) => [b]
 |.sl (some (b,_)) _ _ _ => [b]
 |.f _ l => l.map (·.1)
 |_ => []
def ptrsL (l : List AC) : List Nat := List.rec [] (fun x _ ih => ptrsA x ++ ih) l
def memN (n : Nat) (l : List Nat) : Bool := List.rec false (fun x _ ih => cond (Nat.beq n x) true ih) l
def reachGo (H : AH) (fuel : Nat) : List Nat → List Nat → List Nat := Nat.rec (fun _ seen => seen) (fun _ ih todo seen => match todo with
 |[] => seen
 |n :: r => cond (memN n seen) (ih r seen) (match H.at n with
  |some (_,c,_) => ih (ptrsL c ++ r) (n :: seen)
  |none => match H.get n with
   |some (.lst _) => ih r (n :: seen)
   |_ => ih r seen)) fuel
def reach (H : AH) (v : AV) : List Nat := (reachGo H fuelL (0 :: ptrsL v.cells) []).reverse.tail
def mkH (l : List AO) : AH := List.foldl AH.push ⟨0,.nil,.nil⟩ l
def gcV (v : AV) (H : AH) : Option (AV × AH) := match gcH (0 :: reach H v) H,renV (0 :: reach H v) v with
 |some S,some v' => some (v',S)
 |_,_ => none
theorem gcV_ok {v v' : AV} {H S : AH} (h : gcV v H = some (v',S)) : gcH (0 :: reach H v) H = some S ∧ renV (0 :: reach H v) v = some v' := by
 unfold gcV at h
 split at h
 ·rename_i e1 e2
  injection h with h; injection h with h1 h2; subst h1; subst h2
  exact ⟨e1,e2⟩
 ·cases h
def stepM (run : Run) (f : FuncId) (vs : List AV) (S : AH) : Option AH := match run f (.c (.p (some (0,0))) :: vs) S with
 |some (.t [],H) => gcH (0 :: reach H .u) H
 |_ => none
section
variable [Tx]
theorem BSt.step {run : Run} (hrun : RunOk Tryz.prog 0 run) {f : FuncId} {vs : List AV} {args : List Value} {S S' : AH} {w : World} {F : List Nat} {b : Nat} (h : BSt S F b w) (ha : ∀ E,All2 (AV.v E) vs args) (he : stepM run f vs S = some S') :
  Calls Tryz.prog f (.pointer (some ⟨b,0,none⟩) :: args).toArray w (Ret fun u w' => Chg F w w' ∧ (∃ F',BSt S' F' b w' ∧ ∀ x ∈ F',x ∈ F ∨ w.heap.size ≤ x) ∧ u = .tuple #[]) := by
 obtain ⟨E,h⟩ := h
 obtain ⟨n,hE⟩ := h.fst
 unfold stepM at he
 split at he
 ·rename_i H hr
  refine (h.call hrun (.cons (show AV.v E (.c (.p (some (0,0)))) (.pointer (some ⟨b,0,none⟩)) from ⟨b,n,hE,rfl⟩) (ha E)) hr he).mono fun e w' hx => ?_
  cases e with
  |returned u =>
   obtain ⟨h1,F',E',E1,h2,h3,_,⟨vs',h4,h5⟩,_⟩ := hx
   refine ⟨h1,⟨F',⟨E',h2⟩,h3⟩,?_⟩
   cases h5
   exact h4
  |_ => exact hx.elim
 ·cases he
end
end
end Ev
end
section
inductive RdQ (w : World) : T → Sl → Sl → Prop
 |mk {k : Int} {n x : Str} {ks : List T} {sk : Sl} (ps : List (Sl × Sl)) (hn : sk.n = ks.length) (hl : ps.length = ks.length)
  (hk : ∀ i,i < ks.length → ∃ p,sk.a = some p ∧ Cells w (p.add (i * 5)) (tc (ks.getD i T.nul) (ps.getD i (Sl.nil,Sl.nil))))
  (h : ∀ (i : Nat) (t : T) (p : Sl × Sl),ks[i]? = some t → ps[i]? = some p → RdQ w t p.1 p.2) : RdQ w (.node k n x [] ks) Sl.nil sk
theorem RdQ.nkids {w : World} {t : T} {sa sk : Sl} (h : RdQ w t sa sk) : sk.n = t.kids.length := by
 cases h with | mk ps hn hl hk h => exact hn
theorem RdQ.kid {w : World} {t : T} {sa sk : Sl} (h : RdQ w t sa sk) {i : Nat} (hi : i < t.kids.length) :
  ∃ p sa' sk',sk.a = some p ∧ Cells w (p.add (i * 5)) (tc (t.kids.getD i T.nul) (sa',sk')) ∧ RdQ w (t.kids.getD i T.nul) sa' sk' := by
 cases h with
 |@mk k n x ks _ ps hn hl hk h =>
  simp only [T.kids] at hi ⊢
  have hp : i < ps.length := by omega
  obtain ⟨p,h1,h2⟩ := hk i hi
  refine ⟨p,(ps.getD i (Sl.nil,Sl.nil)).1,(ps.getD i (Sl.nil,Sl.nil)).2,h1,h2,h i _ _ ?_ ?_⟩
  ·rw [List.getElem?_eq_getElem hi,List.getD_eq_getElem?_getD,List.getElem?_eq_getElem hi]; rfl
  ·rw [List.getElem?_eq_getElem hp,List.getD_eq_getElem?_getD,List.getElem?_eq_getElem hp]; rfl
theorem RdQ.attrs {A : List Nat} {w : World} {t : T} {sa sk : Sl} (h : RdQ w t sa sk) : Row A w sa 2 (t.attrs.map ac) := by
 cases h with | mk ps hn hl hk h => exact Row.nil _ _ _
theorem RdQ.nattrs {w : World} {t : T} {sa sk : Sl} (h : RdQ w t sa sk) : sa.n = t.attrs.length := by
 cases h with | mk ps hn hl hk h => rfl
theorem Cells.chgE {w w' : World} {p : Addr} {cs : List Value} (h : Cells w p cs) (c : Ext w w') : Cells w' p cs := fun j v hv => c.cell (h j v hv)
theorem RdQ.ext {w w' : World} {t : T} {sa sk : Sl} (h : RdQ w t sa sk) (c : Ext w w') : RdQ w' t sa sk := by
 induction h with
 |mk ps hn hl hk h ih => exact .mk ps hn hl (fun i hi => by obtain ⟨p,h1,h2⟩ := hk i hi; exact ⟨p,h1,h2.chgE c⟩) ih
namespace Ev
set_option autoImplicit false
noncomputable section
theorem mkGo {l : List AO} : ∀ {acc : AH},(∀ k,acc.nx ≤ k → acc.get k = none) → (List.foldl AH.push acc l).nx = acc.nx + l.length ∧ (List.foldl AH.push acc l).fm = acc.fm ∧ ∀ k,(List.foldl AH.push acc l).get k = if k < acc.nx then acc.get k else l[k - acc.nx]? := by
 induction l with
 |nil =>
  intro acc h
  exact ⟨rfl,rfl,fun k => by
   by_cases hk : k < acc.nx
   ·rw [if_pos hk]; rfl
   ·rw [if_neg hk]; simpa using h k (by omega)⟩
 |cons o l ih =>
  intro acc h
  have hnx : (acc.push o).nx = acc.nx + 1 := rfl
  obtain ⟨h1,h2,h3⟩ := ih (acc := acc.push o) fun k hk => by rw [hnx] at hk; rw [AH.get_push,if_neg (by omega)]; exact h k (by omega)
  refine ⟨by rw [List.foldl_cons,h1,hnx,List.length_cons]; omega,h2,fun k => ?_⟩
  rw [List.foldl_cons,h3,hnx,AH.get_push]
  by_cases h4 : k < acc.nx
  ·rw [if_pos (by omega),if_neg (by omega),if_pos h4]
  ·rw [if_neg h4]
   by_cases h5 : k = acc.nx
   ·subst h5; rw [if_pos (by omega),if_pos rfl,Nat.sub_self]; rfl
   ·rw [if_neg (by omega),show k - acc.nx = (k - (acc.nx + 1)) + 1 by omega,List.getElem?_cons_succ]
theorem mkH_get (l : List AO) : (mkH l).nx = l.length ∧ (mkH l).fm = .nil ∧ ∀ k,(mkH l).get k = l[k]? := by
 obtain ⟨h1,h2,h3⟩ := mkGo (l := l) (acc := ⟨0,.nil,.nil⟩) fun k _ => rfl
 refine ⟨by unfold mkH; rw [h1]; simp,h2,fun k => ?_⟩
 unfold mkH
 rw [h3]; simp
structure Bk where
 B : Nat
 T : Nat
 c : List AC
 C : List Value
def bkE (q : List Bk) : En := fun k => (q[k]?).map fun x => (x.B,x.C.length)
def bkH (q : List Bk) : AH := mkH (q.map fun x => .cells x.T x.c .own)
section
variable [Tx]
theorem bkH_ok {q : List Bk} {F : List Nat} {w : World} (hw : WP w) (ht : 0 ∉ F) (hF : ∀ x ∈ q,x.B ∈ F) (hd : ∀ (i j : Nat) (x y : Bk),i ≠ j → q[i]? = some x → q[j]? = some y → x.B ≠ y.B)
  (h : ∀ x ∈ q,Box w x.B x.T x.C ∧ Pre (bkE q) x.c x.C) : HR (bkE q) (bkH q) (F0 w F) w := by
 obtain ⟨hnx,hfm,hget⟩ := mkH_get (q.map fun x => .cells x.T x.c .own)
 have fmn : ∀ f,(bkH q).fm.get f = none := fun f => by show (mkH _).fm.get f = none; rw [hfm]; rfl
 have get : ∀ {k : Nat} {o : AO},(bkH q).get k = some o → ∃ x,q[k]? = some x ∧ o = .cells x.T x.c .own := fun {k o} hk => by
  have hk : (mkH (q.map fun x => .cells x.T x.c .own)).get k = some o := hk
  rw [hget,List.getElem?_map] at hk
  obtain ⟨x,h1,h2⟩ := Option.map_eq_some_iff.1 hk
  exact ⟨x,h1,h2.symm⟩
 have lt : ∀ {k : Nat} {x : Bk},q[k]? = some x → k < (bkH q).nx := fun hk => by
  show _ < (mkH _).nx
  rw [hnx,List.length_map]; exact (List.getElem?_eq_some_iff.1 hk).1
 refine ⟨⟨hw,ht⟩,Kept.refl _,fun k p hk => ?_,fun k o hk => ?_,fun f p hf => ?_,fun k T c f e hk => ?_,fun k T c f e hk => ?_,fun k T c l B S hk he => ?_,fun k es cl B S hk he => ?_,fun k k' B S S' hkk he he' hl hl' => ?_,fun k v B S hk he => ?_⟩
 ·obtain ⟨x,hx,_⟩ := Option.map_eq_some_iff.1 hk
  exact lt hx
 ·obtain ⟨x,hx,_⟩ := get hk
  exact lt hx
 ·rw [fmn] at hf; cases hf
 ·obtain ⟨_,_,e⟩ := get hk; cases e
 ·obtain ⟨_,_,e⟩ := get (AH.at_eq.1 hk).1; cases e
 ·obtain ⟨x,hx,e⟩ := get (AH.at_eq.1 hk).1
  injection e with e1 e2 e3; subst e1; subst e2; subst e3
  obtain ⟨y,hy,e⟩ := Option.map_eq_some_iff.1 he
  rw [hx] at hy; injection hy with hy; subst hy
  injection e with e1 e2
  obtain ⟨g1,g2⟩ := h x (List.mem_of_getElem? hx)
  exact ⟨x.C,x.T,(0,0),e1 ▸ g1,e2,g2,fun _ => ⟨rfl,.inr (e1 ▸ hF x (List.mem_of_getElem? hx))⟩⟩
 ·obtain ⟨_,_,e⟩ := get hk; cases e
 ·obtain ⟨x,hx,e⟩ := Option.map_eq_some_iff.1 he
  obtain ⟨y,hy,e'⟩ := Option.map_eq_some_iff.1 he'
  injection e with e1 _; injection e' with e2 _
  exact absurd (e1.trans e2.symm) (hd k k' x y hkk hx hy)
 ·obtain ⟨_,_,e⟩ := get hk; cases e
def KidsQ (w : World) (ks : List T) (s : Sl) : Prop := ∃ ps : List (Sl × Sl),s.n = ks.length ∧ ps.length = ks.length ∧
 (∀ i,i < ks.length → ∃ p,s.a = some p ∧ Cells w (p.add (i * 5)) (tc (ks.getD i T.nul) (ps.getD i (Sl.nil,Sl.nil)))) ∧ ∀ (i : Nat) (t : T) (p : Sl × Sl),ks[i]? = some t → ps[i]? = some p → RdQ w t p.1 p.2
def txt (x : List Nat) : Str := x.map UInt8.ofNat
def tX : AC → Option Str
 |.s x => some (txt x)
 |.tx n x => some (txt x ++ Tx.t n)
 |_ => none
theorem tX_ok {E : En} {x : AC} {t : Str} {v : Value} (h : tX x = some t) (hv : x.v E v) : v = .string (Bs t) := by
 unfold tX at h
 split at h
 ·injection h with h; subst h; exact hv.1
 ·injection h with h; subst h; exact hv.1
 ·cases h
def kidsN (ih : AC → Option (List T)) (n : Nat) : List AC → Option (List T) := Nat.rec (fun cs => match cs with | [] => some [] | _ => none) (fun _ go cs => match cs with
 |.i .i64 k :: .s n :: x :: .sl none 0 _ _ :: sk :: r => match tX x,ih sk,go r with
  |some t,some ks,some l => some (T.node k (txt n) t [] ks :: l)
  |_,_,_ => none
 |_ => none) n
def kidsT (H : AH) (fuel : Nat) : AC → Option (List T) := Nat.rec (fun _ => none) (fun _ ih sk => match sk with
 |.sl none _ _ _ => some []
 |.sl (some (b,o)) n _ es => cond (Nat.beq es 5) (match H.rd b o (Nat.mul n 5) with
  |some cs => kidsN ih n cs
  |none => none) none
 |_ => none) fuel
def treeT (H : AH) (v : AV) : Option T := match v with
 |.a [.i .i64 k,.s n,x,.sl none 0 _ _,sk] => match tX x,kidsT H 1000 sk with
  |some t,some ks => some (T.node k (txt n) t [] ks)
  |_,_ => none
 |_ => none
end
section
variable {E : En} {H : AH} {w0 : W0} {w : World}
section
variable [Tx]
theorem kidsN_ok {ih : AC → Option (List T)} (hih : ∀ {sk : AC} {ks : List T} {u : Value},ih sk = some ks → sk.v E u → ∃ s : Sl,u = s.v ∧ KidsQ w ks s) : ∀ {n : Nat} {cs : List AC} {ks : List T} {us : List Value},kidsN ih n cs = some ks → ACs E cs us →
  ks.length = n ∧ ∃ ps : List (Sl × Sl),ps.length = ks.length ∧ (∀ i,i < ks.length → ∀ j v,(tc (ks.getD i T.nul) (ps.getD i (Sl.nil,Sl.nil)))[j]? = some v → us[i * 5 + j]? = some v) ∧ ∀ (i : Nat) (t : T) (p : Sl × Sl),ks[i]? = some t → ps[i]? = some p → RdQ w t p.1 p.2
 |0,cs,ks,us,h,hu => by
  replace h : (match (generalizing := false) cs with | [] => some [] | _ => none) = some ks := h
  split at h
  ·injection h with h; subst h
   exact ⟨rfl,[],rfl,fun i hi => by simp at hi,fun i t p ht => by simp at ht⟩
  ·cases h
 |n + 1,cs,ks,us,h,hu => by
  replace h : (match (generalizing := false) cs with
   |.i .i64 k :: .s nm :: x :: .sl none 0 _ _ :: sk :: r => (match tX x,ih sk,kidsN ih n r with
    |some t,some ks,some l => some (T.node k (txt nm) t [] ks :: l)
    |_,_,_ => none)
   |_ => none) = some ks := h
  split at h
  ·rename_i k nm x _ _ sk r
   split at h
   ·rename_i t1 ks' l e0 e1 e2
    injection h with h; subst h
    cases hu with | cons u1 hu =>
    cases hu with | cons u2 hu =>
    cases hu with | cons u3 hu =>
    cases hu with | cons u4 hu =>
    cases hu with | cons u5 hu =>
    obtain ⟨g1,ps,g2,g3,g4⟩ := kidsN_ok hih e2 hu
    obtain ⟨s,rfl,ps',k1,k2,k3,k4⟩ := hih e1 u5
    cases u1
    obtain ⟨rfl,_⟩ := u2
    obtain rfl := tX_ok e0 u3
    obtain ⟨_,_,rfl⟩ := u4
    refine ⟨by simp [g1],(Sl.nil,s) :: ps,by simp [g2],fun i hi j v hv => ?_,fun i t p ht hp => ?_⟩
    ·cases i with
     |zero =>
      have hv : (tc (T.node k (txt nm) t1 [] ks') (Sl.nil,s))[j]? = some v := by simpa using hv
      rw [Nat.zero_mul,Nat.zero_add]
      rcases j with _ | _ | _ | _ | _ | j
      all_goals first | exact hv | (simp [tc] at hv)
     |succ i =>
      have := g3 i (by simpa using hi) j v (by simpa using hv)
      rw [show (i + 1) * 5 + j = (i * 5 + j) + 5 by omega]
      simpa using this
    ·cases i with
     |zero =>
      simp at ht hp
      subst ht; subst hp
      exact .mk ps' k1 k2 k3 k4
     |succ i => exact g4 i t p (by simpa using ht) (by simpa using hp)
   ·cases h
  ·cases h
theorem kidsT_ok (hH : HR E H w0 w) : ∀ {fuel : Nat} {sk : AC} {ks : List T} {u : Value},kidsT H fuel sk = some ks → sk.v E u → ∃ s : Sl,u = s.v ∧ KidsQ w ks s
 |0,_,_,_,h,_ => by cases h
 |fuel + 1,sk,ks,u,h,hu => by
  replace h : (match (generalizing := false) sk with
   |.sl none _ _ _ => some []
   |.sl (some (b,o)) n _ es => cond (Nat.beq es 5) (match H.rd b o (Nat.mul n 5) with
    |some cs => kidsN (kidsT H fuel) n cs
    |none => none) none
   |_ => none) = some ks := h
  split at h
  ·injection h with h; subst h
   obtain ⟨_,_,rfl⟩ := hu
   exact ⟨Sl.nil,rfl,[],rfl,rfl,fun i hi => by simp at hi,fun i t p ht => by simp at ht⟩
  ·rename_i b o n c es
   cases hb : Nat.beq es 5 with
   |false => rw [hb] at h; cases h
   |true =>
    rw [hb] at h
    replace h : (match H.rd b o (Nat.mul n 5) with
     |some cs => kidsN (kidsT H fuel) n cs
     |none => none) = some ks := h
    split at h
    ·rename_i cs hr
     obtain ⟨B,S,o',c',he,rfl,hc1,hc2,hc3,_⟩ := hu
     obtain ⟨us,g1,g2,g3⟩ := hH.rd hr he
     obtain ⟨k1,ps,k2,k3,k4⟩ := kidsN_ok (fun h k => kidsT_ok hH h k) h g2
     refine ⟨⟨some ⟨B,o',none⟩,n,c'⟩,rfl,ps,k1.symm,k2,fun i hi => ⟨⟨B,o',none⟩,rfl,fun j v hv => ?_⟩,k4⟩
     have ho : o' = o := by
      rcases hc3 with h | h
      ·omega
      ·exact h
     subst ho
     have := g3 (i * 5 + j) v (k3 i hi j v hv)
     rw [Addr.add_add]; exact this
    ·cases h
  ·cases h
theorem treeT_ok (hH : HR E H w0 w) {v : AV} {t : T} {u : Value} (h : treeT H v = some t) (hu : v.v E u) : ∃ sk : Sl,u = tv t Sl.nil sk ∧ RdQ w t Sl.nil sk := by
 unfold treeT at h
 split at h
 ·rename_i k n x _ _ sk
  split at h
  ·rename_i t1 ks e0 e
   injection h with h; subst h
   obtain ⟨cs,rfl,hc⟩ := hu
   cases hc with | cons u1 hc =>
   cases hc with | cons u2 hc =>
   cases hc with | cons u3 hc =>
   cases hc with | cons u4 hc =>
   cases hc with | cons u5 hc =>
   cases hc
   obtain ⟨s,rfl,ps,k1,k2,k3,k4⟩ := kidsT_ok hH e u5
   cases u1
   obtain ⟨rfl,_⟩ := u2
   obtain rfl := tX_ok e0 u3
   obtain ⟨_,_,rfl⟩ := u4
   exact ⟨s,rfl,.mk ps k1 k2 k3 k4⟩
  ·cases h
 ·cases h
end
end
end
end Ev
end
section
open Go.RowKit
theorem treeSizeQ : ∀ t : T,t.bulk ≤ 1099511627776 → ∀ {w : World} {sa sk : Sl},RdQ w t sa sk →
  Calls Tryz.prog 38 #[tv t sa sk] w (Ret fun v w' => Ext w w' ∧ v = .int .i64 (t.size : Int)) := T.ind' fun t ih hb w sa sk h => by
 refine tree_Size.ok _ _ _ _ _ ?_
 unfold tree_Size.vc
 have hn := h.nkids
 have hl := T.kids_len t
 intro w1 B1 _ hE1
 refine ⟨fun n i w2 => ∃ k : Nat,i = (k : Int) ∧ k ≤ t.kids.length ∧ n = ((1 + ((t.kids.take k).map T.size).sum : Nat) : Int) ∧ Ext w w2,fun _ i _ => t.kids.length - i.toNat,⟨0,rfl,Nat.zero_le _,by simp,hE1⟩,?_⟩
 rintro _ _ w2 ⟨k,rfl,hk,rfl,hE⟩
 refine ⟨fun hi => ?_,fun hi => ⟨hE,?_⟩⟩
 ·have hk' : k < t.kids.length := by omega
  obtain ⟨p,sa',sk',hp,hc,hr⟩ := (h.ext hE).kid hk'
  rw [Int.toNat_natCast]
  have hm := getD_mem (d := T.nul) hk'
  have hs := sum_take T.size hk'
  have hsl := sum_take_le T.size t.kids (k + 1)
  have ht := T.size_eq t
  have htb := T.size_bulk t
  refine ⟨⟨by omega,hi⟩,p,hp,_,_,_,sa',sk',hc,fun w3 B3 _ hE3 => CallK.exact (ih _ hm (by have := T.kid_bulk hm; omega) (hr.ext hE3)) fun w4 hE4 => ⟨_,rfl,⟨by omega,by omega⟩,⟨by omega,by omega⟩,⟨k + 1,by omega,by omega,by omega,(hE.trans hE3).trans hE4⟩,by dsimp only; omega⟩⟩
 ·have hkl : k = t.kids.length := by omega
  subst hkl
  rw [List.take_of_length_le (Nat.le_refl _),T.size_eq t]
theorem treeDepthQ : ∀ t : T,t.bulk ≤ 1099511627776 → ∀ {w : World} {sa sk : Sl},RdQ w t sa sk →
  Calls Tryz.prog 39 #[tv t sa sk] w (Ret fun v w' => Ext w w' ∧ v = .int .i64 (t.depth : Int)) := T.ind' fun t ih hb w sa sk h => by
 refine tree_Depth.ok _ _ _ _ _ ?_
 unfold tree_Depth.vc
 have hn := h.nkids
 have hl := T.kids_len t
 intro w1 B1 _ hE1
 refine ⟨fun n i w2 => ∃ k : Nat,i = (k : Int) ∧ k ≤ t.kids.length ∧ n = ((((t.kids.take k).map T.depth).foldr max 0 : Nat) : Int) ∧ Ext w w2,fun _ i _ => t.kids.length - i.toNat,⟨0,rfl,Nat.zero_le _,by simp,hE1⟩,?_⟩
 rintro _ _ w2 ⟨k,rfl,hk,rfl,hE⟩
 refine ⟨fun hi => ?_,fun hi => ?_⟩
 ·have hk' : k < t.kids.length := by omega
  obtain ⟨p,sa',sk',hp,hc,hr⟩ := (h.ext hE).kid hk'
  rw [Int.toNat_natCast]
  have hm := getD_mem (d := T.nul) hk'
  have hs := max_take T.depth hk'
  refine ⟨⟨by omega,hi⟩,p,hp,_,_,_,sa',sk',hc,fun w3 B3 _ hE3 => CallK.exact (ih _ hm (by have := T.kid_bulk hm; omega) (hr.ext hE3)) fun w4 hE4 => ⟨_,rfl,⟨by omega,by omega⟩,⟨k + 1,by omega,by omega,by omega,(hE.trans hE3).trans hE4⟩,by dsimp only; omega⟩⟩
 ·have hkl : k = t.kids.length := by omega
  subst hkl
  have h1 := T.depth_eq t
  have h2 := T.depth_size t
  have h3 := T.size_bulk t
  rw [List.take_of_length_le (Nat.le_refl _)]
  refine ⟨⟨by omega,by omega⟩,hE,?_⟩
  rw [h1]; congr 1; omega
theorem treeKidsQ (t : T) (hb : t.bulk ≤ 1099511627776)
  (ih : ∀ u ∈ t.kids,∀ {w : World} {sa sk : Sl},RdQ w u sa sk → Calls Tryz.prog 76 #[tv u sa sk] w (Ret fun v w' => Ext w w' ∧ v = .bool (nodeOk u))) {w : World} {sa sk : Sl} (h : RdQ w t sa sk) :
  Calls Tryz.prog 41 #[tv t sa sk] w (Ret fun v w' => Ext w w' ∧ v = .bool (kidsOk t)) := by
 refine tree_kids.ok _ _ _ _ _ ?_
 unfold tree_kids.vc
 have hn := h.nkids
 have hl := T.kids_len t
 intro w1 B1 _ hE1
 refine ⟨fun i w2 => ∃ k : Nat,i = (k : Int) ∧ k ≤ t.kids.length ∧ kidsOk t = (t.kids.drop k).all (fun u => nodeOk u && !(decide (u.kind = 5) && !(decide (t.kind = 1)))) ∧ Ext w w2,fun i _ => t.kids.length - i.toNat,⟨0,rfl,Nat.zero_le _,rfl,hE1⟩,?_⟩
 rintro _ w2 ⟨k,rfl,hk,heq,hE⟩
 refine ⟨fun hi => ?_,fun hi => ⟨hE,?_⟩⟩
 ·have hk' : k < t.kids.length := by omega
  obtain ⟨p,sa',sk',hp,hc,hr⟩ := (h.ext hE).kid hk'
  rw [Int.toNat_natCast]
  have hm := getD_mem (d := T.nul) hk'
  rw [List.drop_eq_getElem_cons hk',List.all_cons,show t.kids[k] = t.kids.getD k T.nul by rw [List.getD_eq_getElem?_getD,List.getElem?_eq_getElem hk']; rfl] at heq
  refine ⟨⟨by omega,hi⟩,p,hp,_,_,_,sa',sk',hc,fun w3 B3 _ hE3 => CallK.exact (ih _ hm (hr.ext hE3)) fun w4 hE4 => ⟨_,rfl,fun hbad => ⟨(hE.trans hE3).trans hE4,?_⟩,fun hgood => ⟨⟨by omega,by omega⟩,⟨k + 1,by omega,by omega,?_,(hE.trans hE3).trans hE4⟩,by dsimp only; omega⟩⟩⟩
  ·rw [heq]
   rcases hbad with hb | ⟨hb1,hb2⟩
   ·rw [hb]; rfl
   ·rw [decide_eq_true hb1,decide_eq_false hb2]; simp
  ·rw [heq,hgood.1]
   rcases hgood.2 with hb | hb
   ·rw [decide_eq_false hb]; simp
   ·rw [decide_eq_true (Classical.not_not.1 hb)]; simp
 ·have hkl : k = t.kids.length := by omega
  subst hkl
  rw [heq,List.drop_length]; rfl
theorem treeNodeQ : ∀ t : T,t.bulk ≤ 1099511627776 → ∀ {w : World} {sa sk : Sl},RdQ w t sa sk →
  Calls Tryz.prog 76 #[tv t sa sk] w (Ret fun v w' => Ext w w' ∧ v = .bool (nodeOk t)) := T.ind' fun t ih hb w sa sk h => by
 refine tree_node.ok _ _ _ _ _ ?_
 unfold tree_node.vc
 have hn := h.nkids
 have hna := h.nattrs
 refine ⟨fun h2 => ?_,fun h2 => ?_⟩
 ·rw [nodeOk_el h2]
  intro w1 B1 _ hE1
  refine CallK.exact (treeName t.name) fun w2 hE2 => ⟨_,rfl,_,fun _ => treeAttrs (A := []) (h.ext (hE1.trans hE2)).attrs,fun w3 hE3 => ⟨kidsOk t,fun _ => treeKidsQ t hb (fun u hu _ _ _ hr => ih u hu (by have := T.kid_bulk hu; omega) hr) (h.ext ((hE1.trans hE2).trans hE3)),fun w4 hE4 => ⟨((hE1.trans hE2).trans hE3).trans hE4,?_⟩⟩⟩
  rw [isEmpty_dec]
 ·rw [nodeOk_ne h2]
  refine ⟨fun hbad w1 B1 _ hE1 => ⟨hE1,?_⟩,fun hgood => ?_⟩
  ·have : (t.attrs.isEmpty && t.kids.isEmpty) = false := by
    rcases hbad with hb | hb
    ·have : t.attrs.isEmpty = false := by cases hx : t.attrs <;> simp_all
     rw [this]; rfl
    ·have : t.kids.isEmpty = false := by cases hx : t.kids <;> simp_all
     rw [this,Bool.and_false]
   rw [this,Bool.false_and]
  ·have ha : t.attrs.isEmpty = true := by cases hx : t.attrs <;> simp_all
   have hk : t.kids.isEmpty = true := by cases hx : t.kids <;> simp_all
   rw [ha,hk,Bool.true_and,Bool.true_and]
   have l4 := le_dec t.text 4096
   have l3 := le_dec t.name 32
   rw [show ((4096 : Nat) : Int) = 4096 from rfl] at l4
   rw [show ((32 : Nat) : Int) = 32 from rfl] at l3
   refine ⟨fun h3 w1 B1 _ hE1 => ⟨hE1,?_⟩,fun h3 => ⟨fun h4 w1 B1 _ hE1 => ⟨hE1,?_⟩,fun h4 => ⟨fun h5 w1 B1 _ hE1 => ⟨hE1,?_⟩,fun h5 w1 B1 _ hE1 => ⟨hE1,?_⟩⟩⟩⟩
   ·rw [if_pos h3,isEmpty_dec,isEmpty_ndec,l4]
   ·rw [if_neg h3,if_pos h4,isEmpty_dec,l4]
   ·rw [if_neg h3,if_neg h4,if_pos h5,isEmpty_dec,l3]
   ·rw [if_neg h3,if_neg h4,if_neg h5]
theorem treeCheckQ (t : T) (hb : t.bulk ≤ 1099511627776) {w : World} {sa sk : Sl} (h : RdQ w t sa sk) :
  Calls Tryz.prog 23 #[tv t sa sk] w (Ret fun v w' => Ext w w' ∧ v = .bool t.check) := by
 refine tree_Check.ok _ _ _ _ _ ?_
 unfold tree_Check.vc
 have hna := h.nattrs
 intro w1 B1 _ hE1
 refine ⟨_,fun _ => treeSizeQ t hb (h.ext hE1),fun w2 hE2 => ⟨_,fun _ => treeDepthQ t hb (h.ext (hE1.trans hE2)),fun w3 hE3 w4 hE4 B4 _ hB4 => ?_⟩⟩
 have hE14 := ((hE1.trans hE2).trans hE3).trans hE4
 refine ⟨(t.name.isEmpty && t.text.isEmpty),fun hg => ?_,fun w5 hE5 => ⟨kidsOk t,fun _ => treeKidsQ t hb (fun u hu _ _ _ hr => treeNodeQ u (by have := T.kid_bulk hu; omega) hr) (h.ext (hE14.trans hE5)),fun w6 hE6 => ⟨(hE14.trans hE5).trans hE6,?_⟩⟩⟩
 ·have := treeEmpty (Box.strs (l := [t.name,t.text]) (hB4 hg) (by simp))
  simpa using this
 ·unfold T.check
  have e1 : decide ((t.size : Int) ≤ 300) = decide (t.size ≤ 300) := by rw [Bool.eq_iff_iff]; simp; omega
  have e2 : decide ((t.depth : Int) ≤ 60) = decide (t.depth ≤ 60) := by rw [Bool.eq_iff_iff]; simp; omega
  have e3 : decide ((sa.n : Int) = 0) = t.attrs.isEmpty := by
   rw [hna]; cases t.attrs with
   |nil => rfl
   |cons a r => simp; omega
  rw [e1,e2,e3]
end
section
namespace Ev
variable [Tx]
set_option autoImplicit false
noncomputable section
def cf10 : CF := ⟨80,0,.seq (.reg [⟨some ⟨.a,.a⟩,none,.mv (.c (.c (.b false))),[]⟩]) (.seq (.reg [⟨some ⟨.a,.f⟩,none,.call 16 [.c (.c (.s [60,112,62,97,60,98,62,98,60,112,62,99]))],[]⟩,⟨some
 ⟨.a,.g⟩,none,.call 11 [.t ⟨.a,.f⟩],[]⟩,⟨some ⟨.a,.h⟩,none,.ext 0 (.t ⟨.a,.g⟩),[]⟩,⟨some ⟨.a,.i⟩,none,.ext 1 (.t ⟨.a,.g⟩),[]⟩,⟨some ⟨.a,.b⟩,none,.new 28 (.c (.a [.i .i64 (.ofNat
 0),.s [],.s [],.sl none 0 0 0,.sl none 0 0 0])),[]⟩,⟨none,none,.st 5 (.t ⟨.a,.b⟩) (.t ⟨.a,.h⟩),[]⟩,⟨some ⟨.a,.c⟩,none,.mv (.t ⟨.a,.i⟩),[]⟩]) (.seq (.seq (.reg [⟨some ⟨.a,.k⟩,none,
 .bin .neq (.t ⟨.a,.c⟩) (.c (.c (.i .i64 (.ofNat 0)))),[]⟩,⟨some ⟨.a,.l⟩,none,.mv (.t ⟨.a,.k⟩),[]⟩,⟨some ⟨.a,.m⟩,some (⟨.a,.l⟩,false),.fa 4 (.t ⟨.a,.b⟩),[]⟩,⟨some ⟨.a,.n⟩,some (⟨.a,
 .l⟩,false),.ld 1 false (.t ⟨.a,.m⟩),[]⟩,⟨some ⟨.a,.o⟩,some (⟨.a,.l⟩,false),.len true (.t ⟨.a,.n⟩),[]⟩,⟨some ⟨.a,.p⟩,some (⟨.a,.l⟩,false),.bin .neq (.t ⟨.a,.o⟩) (.c (.c (.i .i64
 (.ofNat 1)))),[]⟩,⟨some ⟨.b,.a⟩,none,.pk (.t ⟨.a,.l⟩) (.c (.c (.b true))) (.t ⟨.a,.p⟩),[]⟩,⟨some ⟨.b,.b⟩,none,.mv (.t ⟨.b,.a⟩),[]⟩,⟨some ⟨.b,.c⟩,some (⟨.b,.b⟩,false),.fa 4 (.t
 ⟨.a,.b⟩),[]⟩,⟨some ⟨.b,.d⟩,some (⟨.b,.b⟩,false),.ld 1 false (.t ⟨.b,.c⟩),[]⟩,⟨some ⟨.b,.e⟩,some (⟨.b,.b⟩,false),.ia 5 (.t ⟨.b,.d⟩) (.c (.c (.i .i64 (.ofNat 0)))),[]⟩,⟨some ⟨.b,
 .f⟩,some (⟨.b,.b⟩,false),.fa 4 (.t ⟨.b,.e⟩),[]⟩,⟨some ⟨.b,.g⟩,some (⟨.b,.b⟩,false),.ld 1 false (.t ⟨.b,.f⟩),[]⟩,⟨some ⟨.b,.h⟩,some (⟨.b,.b⟩,false),.len true (.t ⟨.b,.g⟩),[]⟩,
 ⟨some ⟨.b,.i⟩,some (⟨.b,.b⟩,false),.bin .neq (.t ⟨.b,.h⟩) (.c (.c (.i .i64 (.ofNat 2)))),[]⟩,⟨some ⟨.b,.j⟩,none,.pk (.t ⟨.b,.b⟩) (.c (.c (.b true))) (.t ⟨.b,.i⟩),[]⟩]) (.cond (.t ⟨.b,
 .j⟩) (.seq (.reg [⟨some ⟨.a,.a⟩,none,.mv (.c (.c (.b false))),[]⟩]) .ret) .skip)) (.seq (.reg [⟨some ⟨.b,.k⟩,none,.fa 4 (.t ⟨.a,.b⟩),[]⟩,⟨some ⟨.b,.l⟩,none,.ld 1 false (.t ⟨.b,.k⟩),
 []⟩,⟨some ⟨.b,.m⟩,none,.ia 5 (.t ⟨.b,.l⟩) (.c (.c (.i .i64 (.ofNat 0)))),[]⟩,⟨some ⟨.b,.n⟩,none,.fa 4 (.t ⟨.b,.m⟩),[]⟩,⟨some ⟨.b,.o⟩,none,.ld 1 false (.t ⟨.b,.n⟩),[]⟩,⟨some ⟨.b,
 .p⟩,none,.ia 5 (.t ⟨.b,.o⟩) (.c (.c (.i .i64 (.ofNat 1)))),[]⟩,⟨some ⟨.c,.a⟩,none,.fa 4 (.t ⟨.b,.p⟩),[]⟩,⟨some ⟨.c,.b⟩,none,.ld 1 false (.t ⟨.c,.a⟩),[]⟩,⟨some ⟨.a,.d⟩,none,.mv (.t
 ⟨.c,.b⟩),[]⟩]) (.seq (.reg [⟨some ⟨.c,.d⟩,none,.len true (.t ⟨.a,.d⟩),[]⟩,⟨some ⟨.c,.e⟩,none,.bin .eql (.t ⟨.c,.d⟩) (.c (.c (.i .i64 (.ofNat 2)))),[]⟩,⟨some ⟨.c,.f⟩,none,.mv (.t ⟨.c,
 .e⟩),[]⟩,⟨some ⟨.c,.g⟩,some (⟨.c,.f⟩,true),.mv (.t ⟨.a,.d⟩),[]⟩,⟨some ⟨.c,.h⟩,some (⟨.c,.f⟩,true),.ia 5 (.t ⟨.c,.g⟩) (.c (.c (.i .i64 (.ofNat 0)))),[]⟩,⟨some ⟨.c,.i⟩,some (⟨.c,
 .f⟩,true),.fa 1 (.t ⟨.c,.h⟩),[]⟩,⟨some ⟨.c,.j⟩,some (⟨.c,.f⟩,true),.ld 1 false (.t ⟨.c,.i⟩),[]⟩,⟨some ⟨.c,.k⟩,some (⟨.c,.f⟩,true),.bin .eql (.t ⟨.c,.j⟩) (.c (.c (.s [112]))),[]⟩,
 ⟨some ⟨.c,.l⟩,none,.pk (.t ⟨.c,.f⟩) (.t ⟨.c,.k⟩) (.c (.c (.b false))),[]⟩,⟨some ⟨.c,.m⟩,none,.mv (.t ⟨.c,.l⟩),[]⟩,⟨some ⟨.c,.n⟩,some (⟨.c,.m⟩,true),.mv (.t ⟨.a,.d⟩),[]⟩,⟨some
 ⟨.c,.o⟩,some (⟨.c,.m⟩,true),.ia 5 (.t ⟨.c,.n⟩) (.c (.c (.i .i64 (.ofNat 0)))),[]⟩,⟨some ⟨.c,.p⟩,some (⟨.c,.m⟩,true),.fa 4 (.t ⟨.c,.o⟩),[]⟩,⟨some ⟨.d,.a⟩,some (⟨.c,.m⟩,true),.ld 1
 false (.t ⟨.c,.p⟩),[]⟩,⟨some ⟨.d,.b⟩,some (⟨.c,.m⟩,true),.len true (.t ⟨.d,.a⟩),[]⟩,⟨some ⟨.d,.c⟩,some (⟨.c,.m⟩,true),.bin .eql (.t ⟨.d,.b⟩) (.c (.c (.i .i64 (.ofNat 2)))),[]⟩,
 ⟨some ⟨.d,.d⟩,none,.pk (.t ⟨.c,.m⟩) (.t ⟨.d,.c⟩) (.c (.c (.b false))),[]⟩,⟨some ⟨.d,.e⟩,none,.mv (.t ⟨.d,.d⟩),[]⟩,⟨some ⟨.d,.f⟩,some (⟨.d,.e⟩,true),.mv (.t ⟨.a,.d⟩),[]⟩,⟨some
 ⟨.d,.g⟩,some (⟨.d,.e⟩,true),.ia 5 (.t ⟨.d,.f⟩) (.c (.c (.i .i64 (.ofNat 0)))),[]⟩,⟨some ⟨.d,.h⟩,some (⟨.d,.e⟩,true),.fa 4 (.t ⟨.d,.g⟩),[]⟩,⟨some ⟨.d,.i⟩,some (⟨.d,.e⟩,true),.ld 1
 false (.t ⟨.d,.h⟩),[]⟩,⟨some ⟨.d,.j⟩,some (⟨.d,.e⟩,true),.ia 5 (.t ⟨.d,.i⟩) (.c (.c (.i .i64 (.ofNat 1)))),[]⟩,⟨some ⟨.d,.k⟩,some (⟨.d,.e⟩,true),.fa 1 (.t ⟨.d,.j⟩),[]⟩,⟨some ⟨.d,
 .l⟩,some (⟨.d,.e⟩,true),.ld 1 false (.t ⟨.d,.k⟩),[]⟩,⟨some ⟨.d,.m⟩,some (⟨.d,.e⟩,true),.bin .eql (.t ⟨.d,.l⟩) (.c (.c (.s [98]))),[]⟩,⟨some ⟨.d,.n⟩,none,.pk (.t ⟨.d,.e⟩) (.t ⟨.d,
 .m⟩) (.c (.c (.b false))),[]⟩,⟨some ⟨.d,.o⟩,none,.mv (.t ⟨.d,.n⟩),[]⟩,⟨some ⟨.d,.p⟩,some (⟨.d,.o⟩,true),.mv (.t ⟨.a,.d⟩),[]⟩,⟨some ⟨.e,.a⟩,some (⟨.d,.o⟩,true),.ia 5 (.t ⟨.d,.p⟩)
 (.c (.c (.i .i64 (.ofNat 1)))),[]⟩,⟨some ⟨.e,.b⟩,some (⟨.d,.o⟩,true),.fa 4 (.t ⟨.e,.a⟩),[]⟩,⟨some ⟨.e,.c⟩,some (⟨.d,.o⟩,true),.ld 1 false (.t ⟨.e,.b⟩),[]⟩,⟨some ⟨.e,.d⟩,some (⟨.d,
 .o⟩,true),.len true (.t ⟨.e,.c⟩),[]⟩,⟨some ⟨.e,.e⟩,some (⟨.d,.o⟩,true),.bin .eql (.t ⟨.e,.d⟩) (.c (.c (.i .i64 (.ofNat 1)))),[]⟩,⟨some ⟨.e,.f⟩,none,.pk (.t ⟨.d,.o⟩) (.t ⟨.e,.e⟩) (.c
 (.c (.b false))),[]⟩,⟨some ⟨.e,.g⟩,none,.mv (.t ⟨.e,.f⟩),[]⟩,⟨some ⟨.e,.h⟩,some (⟨.e,.g⟩,true),.mv (.t ⟨.a,.d⟩),[]⟩,⟨some ⟨.e,.i⟩,some (⟨.e,.g⟩,true),.ia 5 (.t ⟨.e,.h⟩) (.c (.c
 (.i .i64 (.ofNat 1)))),[]⟩,⟨some ⟨.e,.j⟩,some (⟨.e,.g⟩,true),.fa 4 (.t ⟨.e,.i⟩),[]⟩,⟨some ⟨.e,.k⟩,some (⟨.e,.g⟩,true),.ld 1 false (.t ⟨.e,.j⟩),[]⟩,⟨some ⟨.e,.l⟩,some (⟨.e,.g⟩,
 true),.ia 5 (.t ⟨.e,.k⟩) (.c (.c (.i .i64 (.ofNat 0)))),[]⟩,⟨some ⟨.e,.m⟩,some (⟨.e,.g⟩,true),.fa 1 (.t ⟨.e,.l⟩),[]⟩,⟨some ⟨.e,.n⟩,some (⟨.e,.g⟩,true),.ld 1 false (.t ⟨.e,.m⟩),[]⟩,
 ⟨some ⟨.e,.o⟩,some (⟨.e,.g⟩,true),.bin .eql (.t ⟨.e,.n⟩) (.c (.c (.s [98]))),[]⟩,⟨some ⟨.e,.p⟩,none,.pk (.t ⟨.e,.g⟩) (.t ⟨.e,.o⟩) (.c (.c (.b false))),[]⟩,⟨some ⟨.a,.a⟩,none,.mv (.t
 ⟨.e,.p⟩),[]⟩]) .ret)))),[(⟨.a,.a⟩,none)]⟩
theorem ok10 : FnR Tryz.prog 0 10 cf10 := fnC_ok [4,9,34] Tryz.func10 (by kernel_rfl) (by kernel_rfl)
def cf11 : CF := ⟨54,1,.seq (.reg [⟨some ⟨.a,.c⟩,none,.new 28 (.c (.a [.i .i64 (.ofNat 0),.s [],.s [],.sl none 0 0 0,.sl none 0 0 0])),[]⟩,⟨some ⟨.a,.d⟩,none,.mv (.c (.c (.i .i64 (.ofNat 0)))),[]⟩])
 (.seq (.reg [⟨some ⟨.a,.i⟩,none,.bld [.i .i64 (.ofNat 0),.i .i64 (.ofNat 0),.s [],.s [],.sl none 0 0 0,.p none,.sl none 0 0 0] [(1,(1,.c (.c (.i .i64 (.ofNat 1)))))],[]⟩,⟨some ⟨.a,.j⟩,
 none,.new 56 (.t ⟨.a,.i⟩),[]⟩,⟨some ⟨.a,.k⟩,none,.call 19 [],[]⟩,⟨some ⟨.a,.l⟩,none,.bld [.p none,.p none,.i .i64 (.ofNat 0),.sl none 0 0 0,.p none,.i .i64 (.ofNat 0),.b false,.b
 false] [(0,(1,.t ⟨.a,.j⟩)),(2,(1,.c (.c (.i .i64 (.ofNat 1))))),(4,(1,.t ⟨.a,.k⟩))],[]⟩,⟨some ⟨.a,.m⟩,none,.new 60 (.t ⟨.a,.l⟩),[]⟩,⟨some ⟨.a,.e⟩,none,.mv (.t ⟨.a,.m⟩),[]⟩])
 (.seq .skip (.seq (.seq (.reg [⟨some ⟨.a,.n⟩,none,.mv (.t ⟨.a,.a⟩),[]⟩,⟨some ⟨.a,.o⟩,none,.len true (.t ⟨.a,.n⟩),[]⟩,⟨some ⟨.a,.p⟩,none,.mv (.c (.c (.i .i64 (.ofNat 0)))),[]⟩]) (.blk
 0 (.loop (.seq (.reg [⟨some ⟨.b,.a⟩,none,.bin .lss (.t ⟨.a,.p⟩) (.t ⟨.a,.o⟩),[]⟩]) (.seq (.cond (.t ⟨.b,.a⟩) .skip (.exit 0)) (.seq (.blk 1 (.seq (.reg [⟨some ⟨.b,.b⟩,none,.ia 5 (.t ⟨.a,
 .n⟩) (.t ⟨.a,.p⟩),[]⟩,⟨some ⟨.b,.c⟩,none,.ld 5 true (.t ⟨.b,.b⟩),[]⟩,⟨some ⟨.a,.g⟩,none,.new 51 (.c (.a [.i .i64 (.ofNat 0),.s [],.s [],.sl none 0 0 0,.b false])),[]⟩,⟨none,none,
 .st 5 (.t ⟨.a,.g⟩) (.t ⟨.b,.c⟩),[]⟩]) (.seq (.seq (.reg [⟨some ⟨.b,.d⟩,none,.fa 0 (.t ⟨.a,.g⟩),[]⟩,⟨some ⟨.b,.e⟩,none,.ld 1 false (.t ⟨.b,.d⟩),[]⟩,⟨some ⟨.b,.f⟩,none,.bin .eql (.t
 ⟨.b,.e⟩) (.c (.c (.i .i64 (.ofNat 6)))),[]⟩,⟨some ⟨.b,.g⟩,none,.mv (.t ⟨.b,.f⟩),[]⟩,⟨some ⟨.b,.h⟩,some (⟨.b,.g⟩,false),.mv (.t ⟨.a,.e⟩),[]⟩,⟨some ⟨.b,.i⟩,some (⟨.b,.g⟩,false),
 .nc (.t ⟨.b,.h⟩),[]⟩,⟨some ⟨.b,.j⟩,some (⟨.b,.g⟩,false),.fa 2 (.t ⟨.b,.i⟩),[]⟩,⟨some ⟨.b,.k⟩,some (⟨.b,.g⟩,false),.ld 1 false (.t ⟨.b,.j⟩),[]⟩,⟨some ⟨.b,.l⟩,some (⟨.b,.g⟩,
 false),.bin .gtr (.t ⟨.b,.k⟩) (.c (.c (.i .i64 (.ofNat 300)))),[]⟩,⟨some ⟨.b,.m⟩,none,.pk (.t ⟨.b,.g⟩) (.c (.c (.b true))) (.t ⟨.b,.l⟩),[]⟩]) (.cond (.t ⟨.b,.m⟩) (.exit 0) .skip)) (.seq
 (.reg [⟨some ⟨.b,.n⟩,none,.ld 5 true (.t ⟨.a,.g⟩),[]⟩,⟨some ⟨.b,.o⟩,none,.call 20 [.t ⟨.b,.n⟩],[]⟩]) (.cond (.t ⟨.b,.o⟩) (.reg [⟨some ⟨.c,.a⟩,none,.ld 5 true (.t ⟨.a,.g⟩),[]⟩,⟨some
 ⟨.c,.b⟩,none,.call 21 [.t ⟨.a,.e⟩,.t ⟨.c,.a⟩],[]⟩]) .skip))))) (.reg [⟨some ⟨.c,.c⟩,none,.bin .add (.t ⟨.a,.p⟩) (.c (.c (.i .i64 (.ofNat 1)))),[]⟩,⟨some ⟨.a,.p⟩,none,.mv (.t ⟨.c,
 .c⟩),[]⟩]))))))) (.seq (.reg [⟨some ⟨.c,.e⟩,none,.bld [.i .i64 (.ofNat 0),.s [],.s [],.sl none 0 0 0,.b false] [(0,(1,.c (.c (.i .i64 (.ofNat 6)))))],[]⟩,⟨some ⟨.c,.f⟩,none,.call 21
 [.t ⟨.a,.e⟩,.t ⟨.c,.e⟩],[]⟩]) (.seq (.seq (.reg [⟨some ⟨.c,.h⟩,none,.nc (.t ⟨.a,.e⟩),[]⟩,⟨some ⟨.c,.i⟩,none,.fa 2 (.t ⟨.c,.h⟩),[]⟩,⟨some ⟨.c,.j⟩,none,.ld 1 false (.t ⟨.c,.i⟩),
 []⟩,⟨some ⟨.c,.k⟩,none,.bin .gtr (.t ⟨.c,.j⟩) (.c (.c (.i .i64 (.ofNat 300)))),[]⟩]) (.cond (.t ⟨.c,.k⟩) (.seq (.reg [⟨some ⟨.c,.l⟩,none,.bld [.i .i64 (.ofNat 0),.s [],.s [],.sl none 0 0
 0,.sl none 0 0 0] [],[]⟩,⟨none,none,.st 5 (.t ⟨.a,.c⟩) (.t ⟨.c,.l⟩),[]⟩,⟨some ⟨.a,.d⟩,none,.mv (.c (.c (.i .i64 (.ofNat 2)))),[]⟩]) .ret) .skip)) (.seq (.reg [⟨some ⟨.c,.n⟩,none,.nc
 (.t ⟨.a,.e⟩),[]⟩,⟨some ⟨.c,.o⟩,none,.fa 0 (.t ⟨.c,.n⟩),[]⟩,⟨some ⟨.c,.p⟩,none,.ld 1 false (.t ⟨.c,.o⟩),[]⟩,⟨some ⟨.d,.a⟩,none,.call 22 [.t ⟨.c,.p⟩],[]⟩,⟨some ⟨.a,.h⟩,none,.new
 28 (.c (.a [.i .i64 (.ofNat 0),.s [],.s [],.sl none 0 0 0,.sl none 0 0 0])),[]⟩,⟨none,none,.st 5 (.t ⟨.a,.h⟩) (.t ⟨.d,.a⟩),[]⟩]) (.seq (.seq (.reg [⟨some ⟨.d,.b⟩,none,.ld 5 true (.t
 ⟨.a,.h⟩),[]⟩,⟨some ⟨.d,.c⟩,none,.call 23 [.t ⟨.d,.b⟩],[]⟩,⟨some ⟨.d,.d⟩,none,.un .not (.t ⟨.d,.c⟩),[]⟩]) (.cond (.t ⟨.d,.d⟩) (.seq (.reg [⟨some ⟨.d,.e⟩,none,.bld [.i .i64 (.ofNat
 0),.s [],.s [],.sl none 0 0 0,.sl none 0 0 0] [],[]⟩,⟨none,none,.st 5 (.t ⟨.a,.c⟩) (.t ⟨.d,.e⟩),[]⟩,⟨some ⟨.a,.d⟩,none,.mv (.c (.c (.i .i64 (.ofNat 2)))),[]⟩]) .ret) .skip)) (.seq
 (.reg [⟨some ⟨.d,.f⟩,none,.ld 5 true (.t ⟨.a,.h⟩),[]⟩,⟨none,none,.st 5 (.t ⟨.a,.c⟩) (.t ⟨.d,.f⟩),[]⟩,⟨some ⟨.a,.d⟩,none,.mv (.c (.c (.i .i64 (.ofNat 0)))),[]⟩]) .ret)))))))),[(⟨.a,
 .c⟩,some (5,true)),(⟨.a,.d⟩,none)]⟩
theorem ok11 : FnR Tryz.prog 0 11 cf11 := fnC_ok [31,35,38,44] Tryz.func11 (by kernel_rfl) (by kernel_rfl)
def cf16 : CF := ⟨57,1,.seq (.reg [⟨some ⟨.a,.c⟩,none,.mv (.c (.c (.sl none 0 0 0))),[]⟩]) (.seq (.reg [⟨some ⟨.a,.l⟩,none,.call 28 [.t ⟨.a,.a⟩],[]⟩,⟨some ⟨.a,.d⟩,none,.mv (.t ⟨.a,.l⟩),[]⟩]) (.seq
 (.reg [⟨some ⟨.a,.e⟩,none,.mv (.c (.c (.sl none 0 0 0))),[]⟩]) (.seq (.reg [⟨some ⟨.a,.f⟩,none,.mv (.c (.c (.s []))),[]⟩]) (.seq (.reg [⟨some ⟨.a,.g⟩,none,.mv (.c (.c (.i .i64 (.ofNat
 0)))),[]⟩]) (.blk 0 (.loop (.blk 1 (.seq (.reg [⟨some ⟨.b,.a⟩,none,.call 29 [.t ⟨.a,.d⟩,.t ⟨.a,.g⟩,.t ⟨.a,.f⟩],[]⟩,⟨some ⟨.b,.b⟩,none,.ext 0 (.t ⟨.b,.a⟩),[]⟩,⟨some ⟨.b,.c⟩,none,
 .ext 1 (.t ⟨.b,.a⟩),[]⟩,⟨some ⟨.b,.d⟩,none,.ext 2 (.t ⟨.b,.a⟩),[]⟩,⟨some ⟨.a,.h⟩,none,.new 51 (.c (.a [.i .i64 (.ofNat 0),.s [],.s [],.sl none 0 0 0,.b false])),[]⟩,⟨none,none,.st
 5 (.t ⟨.a,.h⟩) (.t ⟨.b,.b⟩),[]⟩,⟨some ⟨.a,.i⟩,none,.mv (.t ⟨.b,.c⟩),[]⟩,⟨some ⟨.a,.j⟩,none,.mv (.t ⟨.b,.d⟩),[]⟩]) (.seq (.reg [⟨some ⟨.a,.g⟩,none,.mv (.t ⟨.a,.i⟩),[]⟩]) (.seq
 (.seq (.reg [⟨some ⟨.b,.g⟩,none,.un .not (.t ⟨.a,.j⟩),[]⟩]) (.cond (.t ⟨.b,.g⟩) (.exit 1) .skip)) (.seq (.reg [⟨some ⟨.b,.i⟩,none,.ld 5 true (.t ⟨.a,.h⟩),[]⟩,⟨some ⟨.b,.j⟩,none,.bsl 51
 5 1 [.i .i64 (.ofNat 0),.s [],.s [],.sl none 0 0 0,.b false] [(0,(5,.t ⟨.b,.i⟩))],[]⟩,⟨some ⟨.b,.k⟩,none,.app 51 5 false (.t ⟨.a,.e⟩) (.t ⟨.b,.j⟩),[]⟩,⟨some ⟨.a,.e⟩,none,.mv (.t
 ⟨.b,.k⟩),[]⟩]) (.blk 2 (.seq (.reg [⟨some ⟨.b,.m⟩,none,.fa 0 (.t ⟨.a,.h⟩),[]⟩,⟨some ⟨.b,.n⟩,none,.ld 1 false (.t ⟨.b,.m⟩),[]⟩,⟨some ⟨.b,.o⟩,none,.bin .eql (.t ⟨.b,.n⟩) (.c (.c (.i
 .i64 (.ofNat 6)))),[]⟩,⟨some ⟨.b,.l⟩,none,.mv (.t ⟨.b,.o⟩),[]⟩]) (.cond (.t ⟨.b,.l⟩) (.seq (.reg [⟨some ⟨.a,.c⟩,none,.mv (.t ⟨.a,.e⟩),[]⟩]) .ret) (.seq (.reg [⟨some ⟨.c,.b⟩,none,.fa 0
 (.t ⟨.a,.h⟩),[]⟩,⟨some ⟨.c,.c⟩,none,.ld 1 false (.t ⟨.c,.b⟩),[]⟩,⟨some ⟨.c,.d⟩,none,.bin .eql (.t ⟨.c,.c⟩) (.c (.c (.i .i64 (.ofNat 1)))),[]⟩,⟨some ⟨.c,.e⟩,none,.mv (.t ⟨.c,.d⟩),
 []⟩,⟨some ⟨.c,.f⟩,some (⟨.c,.e⟩,true),.fa 1 (.t ⟨.a,.h⟩),[]⟩,⟨some ⟨.c,.g⟩,some (⟨.c,.e⟩,true),.ld 1 false (.t ⟨.c,.f⟩),[]⟩,⟨some ⟨.c,.h⟩,some (⟨.c,.e⟩,true),.call 30 [.t ⟨.c,
 .g⟩],[]⟩,⟨some ⟨.c,.i⟩,some (⟨.c,.e⟩,true),.bin .gtr (.t ⟨.c,.h⟩) (.c (.c (.i .i64 (.ofNat 0)))),[]⟩,⟨some ⟨.c,.j⟩,none,.pk (.t ⟨.c,.e⟩) (.t ⟨.c,.i⟩) (.c (.c (.b false))),[]⟩,⟨some
 ⟨.c,.a⟩,none,.mv (.t ⟨.c,.j⟩),[]⟩]) (.cond (.t ⟨.c,.a⟩) (.reg [⟨some ⟨.c,.k⟩,none,.fa 1 (.t ⟨.a,.h⟩),[]⟩,⟨some ⟨.c,.l⟩,none,.ld 1 false (.t ⟨.c,.k⟩),[]⟩,⟨some ⟨.a,.f⟩,none,.mv
 (.t ⟨.c,.l⟩),[]⟩]) (.seq (.seq (.reg [⟨some ⟨.c,.n⟩,none,.fa 0 (.t ⟨.a,.h⟩),[]⟩,⟨some ⟨.c,.o⟩,none,.ld 1 false (.t ⟨.c,.n⟩),[]⟩,⟨some ⟨.c,.p⟩,none,.bin .eql (.t ⟨.c,.o⟩) (.c (.c (.i
 .i64 (.ofNat 1)))),[]⟩,⟨some ⟨.c,.m⟩,none,.mv (.t ⟨.c,.p⟩),[]⟩]) (.cond (.t ⟨.c,.m⟩) .skip (.reg [⟨some ⟨.d,.a⟩,none,.fa 0 (.t ⟨.a,.h⟩),[]⟩,⟨some ⟨.d,.b⟩,none,.ld 1 false (.t ⟨.d,
 .a⟩),[]⟩,⟨some ⟨.d,.c⟩,none,.bin .eql (.t ⟨.d,.b⟩) (.c (.c (.i .i64 (.ofNat 2)))),[]⟩,⟨some ⟨.d,.d⟩,none,.mv (.t ⟨.d,.c⟩),[]⟩,⟨some ⟨.d,.e⟩,some (⟨.d,.d⟩,true),.fa 1 (.t ⟨.a,.h⟩),
 []⟩,⟨some ⟨.d,.f⟩,some (⟨.d,.d⟩,true),.ld 1 false (.t ⟨.d,.e⟩),[]⟩,⟨some ⟨.d,.g⟩,some (⟨.d,.d⟩,true),.mv (.t ⟨.a,.f⟩),[]⟩,⟨some ⟨.d,.h⟩,some (⟨.d,.d⟩,true),.bin .eql (.t ⟨.d,
 .f⟩) (.t ⟨.d,.g⟩),[]⟩,⟨some ⟨.d,.i⟩,none,.pk (.t ⟨.d,.d⟩) (.t ⟨.d,.h⟩) (.c (.c (.b false))),[]⟩,⟨some ⟨.c,.m⟩,none,.mv (.t ⟨.d,.i⟩),[]⟩]))) (.cond (.t ⟨.c,.m⟩) (.reg [⟨some ⟨.a,.f⟩,
 none,.mv (.c (.c (.s []))),[]⟩]) .skip)))))))))))))))))),[(⟨.a,.c⟩,none)]⟩
theorem ok16 : FnR Tryz.prog 0 16 cf16 := fnC_ok [10,12,13,14,15,20,21,23,31] Tryz.func16 (by kernel_rfl) (by kernel_rfl)
def cf19 : CF := ⟨3,0,.seq (.reg [⟨some ⟨.a,.a⟩,none,.mv (.c (.c (.p none))),[]⟩]) (.seq (.reg [⟨some ⟨.a,.b⟩,none,.bld [.sl none 0 0 0] [],[]⟩,⟨some ⟨.a,.c⟩,none,.new 73 (.t ⟨.a,.b⟩),[]⟩,⟨some ⟨.a,
 .a⟩,none,.mv (.t ⟨.a,.c⟩),[]⟩]) .ret),[(⟨.a,.a⟩,none)]⟩
theorem ok19 : FnR Tryz.prog 0 19 cf19 := fnC_ok [] Tryz.func19 (by kernel_rfl) (by kernel_rfl)
def cf20 : CF := ⟨28,1,.seq (.reg [⟨some ⟨.a,.b⟩,none,.new 51 (.t ⟨.a,.a⟩),[]⟩,⟨some ⟨.a,.c⟩,none,.mv (.c (.c (.b false))),[]⟩]) (.seq (.seq (.reg [⟨some ⟨.a,.d⟩,none,.fa 0 (.t ⟨.a,.b⟩),[]⟩,⟨some
 ⟨.a,.e⟩,none,.ld 1 false (.t ⟨.a,.d⟩),[]⟩]) (.blk 0 (.seq (.reg [⟨some ⟨.a,.g⟩,none,.bin .eql (.t ⟨.a,.e⟩) (.c (.c (.i .i64 (.ofNat 1)))),[]⟩,⟨some ⟨.a,.f⟩,none,.mv (.t ⟨.a,.g⟩),[]⟩])
 (.cond (.t ⟨.a,.f⟩) (.seq (.reg [⟨some ⟨.a,.h⟩,none,.fa 1 (.t ⟨.a,.b⟩),[]⟩,⟨some ⟨.a,.i⟩,none,.ld 1 false (.t ⟨.a,.h⟩),[]⟩,⟨some ⟨.a,.j⟩,none,.call 31 [.t ⟨.a,.i⟩],[]⟩,⟨some ⟨.a,
 .c⟩,none,.mv (.t ⟨.a,.j⟩),[]⟩]) .ret) (.seq (.reg [⟨some ⟨.a,.l⟩,none,.bin .eql (.t ⟨.a,.e⟩) (.c (.c (.i .i64 (.ofNat 3)))),[]⟩,⟨some ⟨.a,.k⟩,none,.mv (.t ⟨.a,.l⟩),[]⟩]) (.cond (.t
 ⟨.a,.k⟩) (.seq (.reg [⟨some ⟨.a,.m⟩,none,.fa 2 (.t ⟨.a,.b⟩),[]⟩,⟨some ⟨.a,.n⟩,none,.ld 1 false (.t ⟨.a,.m⟩),[]⟩,⟨some ⟨.a,.o⟩,none,.bin .neq (.t ⟨.a,.n⟩) (.c (.c (.s []))),[]⟩,
 ⟨some ⟨.a,.c⟩,none,.mv (.t ⟨.a,.o⟩),[]⟩]) .ret) .skip)))))) (.seq (.reg [⟨some ⟨.a,.p⟩,none,.fa 0 (.t ⟨.a,.b⟩),[]⟩,⟨some ⟨.b,.a⟩,none,.ld 1 false (.t ⟨.a,.p⟩),[]⟩,⟨some ⟨.b,.b⟩,
 none,.bin .eql (.t ⟨.b,.a⟩) (.c (.c (.i .i64 (.ofNat 2)))),[]⟩,⟨some ⟨.b,.c⟩,none,.mv (.t ⟨.b,.b⟩),[]⟩,⟨some ⟨.b,.d⟩,some (⟨.b,.c⟩,false),.fa 0 (.t ⟨.a,.b⟩),[]⟩,⟨some ⟨.b,.e⟩,some
 (⟨.b,.c⟩,false),.ld 1 false (.t ⟨.b,.d⟩),[]⟩,⟨some ⟨.b,.f⟩,some (⟨.b,.c⟩,false),.bin .eql (.t ⟨.b,.e⟩) (.c (.c (.i .i64 (.ofNat 4)))),[]⟩,⟨some ⟨.b,.g⟩,none,.pk (.t ⟨.b,.c⟩) (.c (.c
 (.b true))) (.t ⟨.b,.f⟩),[]⟩,⟨some ⟨.b,.h⟩,none,.mv (.t ⟨.b,.g⟩),[]⟩,⟨some ⟨.b,.i⟩,some (⟨.b,.h⟩,false),.fa 0 (.t ⟨.a,.b⟩),[]⟩,⟨some ⟨.b,.j⟩,some (⟨.b,.h⟩,false),.ld 1 false (.t
 ⟨.b,.i⟩),[]⟩,⟨some ⟨.b,.k⟩,some (⟨.b,.h⟩,false),.bin .eql (.t ⟨.b,.j⟩) (.c (.c (.i .i64 (.ofNat 5)))),[]⟩,⟨some ⟨.b,.l⟩,none,.pk (.t ⟨.b,.h⟩) (.c (.c (.b true))) (.t ⟨.b,.k⟩),[]⟩,
 ⟨some ⟨.a,.c⟩,none,.mv (.t ⟨.b,.l⟩),[]⟩]) .ret)),[(⟨.a,.c⟩,none)]⟩
theorem ok20 : FnR Tryz.prog 0 20 cf20 := fnC_ok [] Tryz.func20 (by kernel_rfl) (by kernel_rfl)
def cf21 : CF := ⟨55,2,.seq (.reg [⟨some ⟨.a,.d⟩,none,.new 51 (.t ⟨.a,.b⟩),[]⟩]) (.seq (.seq (.reg [⟨some ⟨.a,.f⟩,none,.nc (.t ⟨.a,.a⟩),[]⟩,⟨some ⟨.a,.g⟩,none,.fa 7 (.t ⟨.a,.f⟩),[]⟩,⟨some ⟨.a,.h⟩,
 none,.ld 1 false (.t ⟨.a,.g⟩),[]⟩,⟨some ⟨.a,.i⟩,none,.mv (.t ⟨.a,.h⟩),[]⟩,⟨some ⟨.a,.j⟩,some (⟨.a,.i⟩,true),.fa 0 (.t ⟨.a,.d⟩),[]⟩,⟨some ⟨.a,.k⟩,some (⟨.a,.i⟩,true),.ld 1 false
 (.t ⟨.a,.j⟩),[]⟩,⟨some ⟨.a,.l⟩,some (⟨.a,.i⟩,true),.bin .eql (.t ⟨.a,.k⟩) (.c (.c (.i .i64 (.ofNat 3)))),[]⟩,⟨some ⟨.a,.m⟩,none,.pk (.t ⟨.a,.i⟩) (.t ⟨.a,.l⟩) (.c (.c (.b false))),
 []⟩]) (.cond (.t ⟨.a,.m⟩) (.reg [⟨some ⟨.a,.n⟩,none,.fa 2 (.t ⟨.a,.d⟩),[]⟩,⟨some ⟨.a,.o⟩,none,.ld 1 false (.t ⟨.a,.n⟩),[]⟩,⟨some ⟨.a,.p⟩,none,.call 32 [.t ⟨.a,.o⟩,.c (.c (.s
 [10]))],[]⟩,⟨some ⟨.b,.a⟩,none,.fa 2 (.t ⟨.a,.d⟩),[]⟩,⟨none,none,.st 1 (.t ⟨.b,.a⟩) (.t ⟨.a,.p⟩),[]⟩]) .skip)) (.seq (.reg [⟨some ⟨.b,.c⟩,none,.fa 0 (.t ⟨.a,.d⟩),[]⟩,⟨some ⟨.b,
 .d⟩,none,.ld 1 false (.t ⟨.b,.c⟩),[]⟩,⟨some ⟨.b,.e⟩,none,.bin .eql (.t ⟨.b,.d⟩) (.c (.c (.i .i64 (.ofNat 1)))),[]⟩,⟨some ⟨.b,.f⟩,none,.mv (.t ⟨.b,.e⟩),[]⟩,⟨some ⟨.b,.g⟩,some (⟨.b,
 .f⟩,true),.fa 1 (.t ⟨.a,.d⟩),[]⟩,⟨some ⟨.b,.h⟩,some (⟨.b,.f⟩,true),.ld 1 false (.t ⟨.b,.g⟩),[]⟩,⟨some ⟨.b,.i⟩,some (⟨.b,.f⟩,true),.bsl 9 1 3 [.s [],.s [],.s []] [(0,(1,.c (.c
 (.s [116,101,120,116,97,114,101,97])))),(1,(1,.c (.c (.s [112,114,101])))),(2,(1,.c (.c (.s [108,105,115,116,105,110,103]))))],[]⟩,⟨some ⟨.b,.j⟩,some (⟨.b,.f⟩,true),.call
 33 [.t ⟨.b,.h⟩,.t ⟨.b,.i⟩],[]⟩,⟨some ⟨.b,.k⟩,none,.pk (.t ⟨.b,.f⟩) (.t ⟨.b,.j⟩) (.c (.c (.b false))),[]⟩,⟨some ⟨.b,.l⟩,none,.nc (.t ⟨.a,.a⟩),[]⟩,⟨some ⟨.b,.m⟩,none,.fa 7 (.t ⟨.b,
 .l⟩),[]⟩,⟨none,none,.st 1 (.t ⟨.b,.m⟩) (.t ⟨.b,.k⟩),[]⟩]) (.seq (.seq (.reg [⟨some ⟨.b,.n⟩,none,.fa 0 (.t ⟨.a,.d⟩),[]⟩,⟨some ⟨.b,.o⟩,none,.ld 1 false (.t ⟨.b,.n⟩),[]⟩,⟨some ⟨.b,
 .p⟩,none,.bin .eql (.t ⟨.b,.o⟩) (.c (.c (.i .i64 (.ofNat 3)))),[]⟩,⟨some ⟨.c,.a⟩,none,.mv (.t ⟨.b,.p⟩),[]⟩,⟨some ⟨.c,.b⟩,some (⟨.c,.a⟩,true),.fa 2 (.t ⟨.a,.d⟩),[]⟩,⟨some ⟨.c,.c⟩,
 some (⟨.c,.a⟩,true),.ld 1 false (.t ⟨.c,.b⟩),[]⟩,⟨some ⟨.c,.d⟩,some (⟨.c,.a⟩,true),.bin .eql (.t ⟨.c,.c⟩) (.c (.c (.s []))),[]⟩,⟨some ⟨.c,.e⟩,none,.pk (.t ⟨.c,.a⟩) (.t ⟨.c,.d⟩) (.c
 (.c (.b false))),[]⟩]) (.cond (.t ⟨.c,.e⟩) .ret .skip)) (.seq (.reg [⟨some ⟨.c,.f⟩,none,.fa 3 (.t ⟨.a,.d⟩),[]⟩,⟨some ⟨.c,.g⟩,none,.ld 1 false (.t ⟨.c,.f⟩),[]⟩,⟨some ⟨.c,.h⟩,none,
 .call 35 [.t ⟨.c,.g⟩],[]⟩,⟨some ⟨.c,.i⟩,none,.call 34 [.t ⟨.c,.h⟩,.c (.c (.f 36 []))],[]⟩,⟨some ⟨.c,.j⟩,none,.fa 3 (.t ⟨.a,.d⟩),[]⟩,⟨none,none,.st 1 (.t ⟨.c,.j⟩) (.t ⟨.c,.i⟩),
 []⟩]) (.seq (.blk 0 (.loop (.seq (.seq (.reg [⟨some ⟨.c,.l⟩,none,.nc (.t ⟨.a,.a⟩),[]⟩,⟨some ⟨.c,.m⟩,none,.fa 2 (.t ⟨.c,.l⟩),[]⟩,⟨some ⟨.c,.n⟩,none,.ld 1 false (.t ⟨.c,.m⟩),[]⟩,⟨some
 ⟨.c,.o⟩,none,.bin .leq (.t ⟨.c,.n⟩) (.c (.c (.i .i64 (.ofNat 300)))),[]⟩,⟨some ⟨.c,.p⟩,none,.mv (.t ⟨.c,.o⟩),[]⟩,⟨some ⟨.d,.a⟩,some (⟨.c,.p⟩,true),.mv (.t ⟨.a,.a⟩),[]⟩,⟨some ⟨.d,
 .b⟩,some (⟨.c,.p⟩,true),.ld 5 true (.t ⟨.a,.d⟩),[]⟩,⟨some ⟨.d,.c⟩,some (⟨.c,.p⟩,true),.call 37 [.t ⟨.d,.a⟩,.t ⟨.d,.b⟩],[]⟩,⟨some ⟨.d,.d⟩,none,.pk (.t ⟨.c,.p⟩) (.t ⟨.d,.c⟩) (.c
 (.c (.b false))),[]⟩]) (.cond (.t ⟨.d,.d⟩) .skip (.exit 0))) (.blk 1 .skip)))) (.reg [⟨some ⟨.d,.f⟩,none,.nc (.t ⟨.a,.a⟩),[]⟩,⟨some ⟨.d,.g⟩,none,.fa 6 (.t ⟨.d,.f⟩),[]⟩,⟨none,none,.st
 1 (.t ⟨.d,.g⟩) (.c (.c (.b false))),[]⟩])))))),[]⟩
theorem ok21 : FnR Tryz.prog 0 21 cf21 := fnC_ok [4,17,42,52] Tryz.func21 (by kernel_rfl) (by kernel_rfl)
def cf22 : CF := ⟨41,1,.seq (.reg [⟨some ⟨.a,.c⟩,none,.new 28 (.c (.a [.i .i64 (.ofNat 0),.s [],.s [],.sl none 0 0 0,.sl none 0 0 0])),[]⟩]) (.seq (.dreg [⟨some ⟨.a,.g⟩,none,.mv (.t ⟨.a,.a⟩),[]⟩,⟨some
 ⟨.a,.h⟩,none,.nc (.t ⟨.a,.g⟩),[]⟩,⟨some ⟨.a,.i⟩,none,.fa 1 (.t ⟨.a,.h⟩),[]⟩,⟨some ⟨.a,.j⟩,none,.ld 1 false (.t ⟨.a,.i⟩),[]⟩,⟨some ⟨.a,.k⟩,none,.mv (.t ⟨.a,.a⟩),[]⟩,⟨some ⟨.a,
 .l⟩,none,.nc (.t ⟨.a,.k⟩),[]⟩,⟨some ⟨.a,.m⟩,none,.fa 2 (.t ⟨.a,.l⟩),[]⟩,⟨some ⟨.a,.n⟩,none,.ld 1 false (.t ⟨.a,.m⟩),[]⟩,⟨some ⟨.a,.o⟩,none,.mv (.t ⟨.a,.a⟩),[]⟩,⟨some ⟨.a,.p⟩,
 none,.nc (.t ⟨.a,.o⟩),[]⟩,⟨some ⟨.b,.a⟩,none,.fa 3 (.t ⟨.a,.p⟩),[]⟩,⟨some ⟨.b,.b⟩,none,.ld 1 false (.t ⟨.b,.a⟩),[]⟩,⟨some ⟨.b,.c⟩,none,.mv (.t ⟨.a,.a⟩),[]⟩,⟨some ⟨.b,.d⟩,none,
 .nc (.t ⟨.b,.c⟩),[]⟩,⟨some ⟨.b,.e⟩,none,.fa 4 (.t ⟨.b,.d⟩),[]⟩,⟨some ⟨.b,.f⟩,none,.ld 1 false (.t ⟨.b,.e⟩),[]⟩,⟨some ⟨.b,.g⟩,none,.bld [.i .i64 (.ofNat 0),.s [],.s [],.sl none 0
 0 0,.sl none 0 0 0] [(0,(1,.t ⟨.a,.j⟩)),(1,(1,.t ⟨.a,.n⟩)),(2,(1,.t ⟨.b,.b⟩)),(3,(1,.t ⟨.b,.f⟩))],[]⟩,⟨some ⟨.a,.d⟩,none,.new 28 (.c (.a [.i .i64 (.ofNat 0),.s [],.s [],.sl
 none 0 0 0,.sl none 0 0 0])),[]⟩,⟨none,none,.st 5 (.t ⟨.a,.d⟩) (.t ⟨.b,.g⟩),[]⟩]) (.seq (.seq (.reg [⟨some ⟨.b,.i⟩,none,.nc (.t ⟨.a,.a⟩),[]⟩,⟨some ⟨.b,.j⟩,none,.fa 6 (.t ⟨.b,.i⟩),
 []⟩,⟨some ⟨.b,.k⟩,none,.ld 1 false (.t ⟨.b,.j⟩),[]⟩,⟨some ⟨.b,.l⟩,none,.len true (.t ⟨.b,.k⟩),[]⟩,⟨some ⟨.b,.m⟩,none,.mv (.c (.c (.i .i64 (.ofNat 0)))),[]⟩]) (.blk 0 (.loop (.seq
 (.reg [⟨some ⟨.b,.n⟩,none,.bin .lss (.t ⟨.b,.m⟩) (.t ⟨.b,.l⟩),[]⟩]) (.seq (.cond (.t ⟨.b,.n⟩) .skip (.exit 0)) (.seq (.blk 1 (.seq (.reg [⟨some ⟨.b,.o⟩,none,.ia 1 (.t ⟨.b,.k⟩) (.t ⟨.b,
 .m⟩),[]⟩,⟨some ⟨.b,.p⟩,none,.ld 1 false (.t ⟨.b,.o⟩),[]⟩,⟨some ⟨.a,.f⟩,none,.mv (.t ⟨.b,.p⟩),[]⟩]) (.dreg [⟨some ⟨.c,.a⟩,none,.fa 4 (.t ⟨.a,.d⟩),[]⟩,⟨some ⟨.c,.b⟩,none,.ld 1
 false (.t ⟨.c,.a⟩),[]⟩,⟨some ⟨.c,.c⟩,none,.mv (.t ⟨.a,.f⟩),[]⟩,⟨some ⟨.c,.d⟩,none,.call 22 [.t ⟨.c,.c⟩],[⟨some ⟨.c,.b⟩,none,.ld 1 false (.t ⟨.c,.a⟩)⟩]⟩,⟨some ⟨.c,.e⟩,none,.bsl
 28 5 1 [.i .i64 (.ofNat 0),.s [],.s [],.sl none 0 0 0,.sl none 0 0 0] [(0,(5,.t ⟨.c,.d⟩))],[]⟩,⟨some ⟨.c,.f⟩,none,.app 28 5 false (.t ⟨.c,.b⟩) (.t ⟨.c,.e⟩),[]⟩,⟨some ⟨.c,.g⟩,none,
 .fa 4 (.t ⟨.a,.d⟩),[]⟩,⟨none,none,.st 1 (.t ⟨.c,.g⟩) (.t ⟨.c,.f⟩),[]⟩]))) (.reg [⟨some ⟨.c,.h⟩,none,.bin .add (.t ⟨.b,.m⟩) (.c (.c (.i .i64 (.ofNat 1)))),[]⟩,⟨some ⟨.b,.m⟩,none,.mv
 (.t ⟨.c,.h⟩),[]⟩]))))))) (.seq (.reg [⟨some ⟨.c,.i⟩,none,.ld 5 true (.t ⟨.a,.d⟩),[]⟩,⟨none,none,.st 5 (.t ⟨.a,.c⟩) (.t ⟨.c,.i⟩),[]⟩]) .ret))),[(⟨.a,.c⟩,some (5,true))]⟩
theorem ok22 : FnR Tryz.prog 0 22 cf22 := fnC_ok [23] Tryz.func22 (by kernel_rfl) (by kernel_rfl)
def cf23 : CF := ⟨34,1,.seq (.reg [⟨some ⟨.a,.b⟩,none,.new 28 (.t ⟨.a,.a⟩),[]⟩,⟨some ⟨.a,.c⟩,none,.mv (.c (.c (.b false))),[]⟩]) (.seq (.reg [⟨some ⟨.a,.d⟩,none,.fa 0 (.t ⟨.a,.b⟩),[]⟩,⟨some ⟨.a,
 .e⟩,none,.ld 1 false (.t ⟨.a,.d⟩),[]⟩,⟨some ⟨.a,.f⟩,none,.bin .eql (.t ⟨.a,.e⟩) (.c (.c (.i .i64 (.ofNat 1)))),[]⟩,⟨some ⟨.a,.g⟩,none,.mv (.t ⟨.a,.f⟩),[]⟩,⟨some ⟨.a,.h⟩,some (⟨.a,
 .g⟩,true),.ld 5 true (.t ⟨.a,.b⟩),[]⟩,⟨some ⟨.a,.i⟩,some (⟨.a,.g⟩,true),.call 38 [.t ⟨.a,.h⟩],[]⟩,⟨some ⟨.a,.j⟩,some (⟨.a,.g⟩,true),.bin .leq (.t ⟨.a,.i⟩) (.c (.c (.i .i64 (.ofNat
 300)))),[]⟩,⟨some ⟨.a,.k⟩,none,.pk (.t ⟨.a,.g⟩) (.t ⟨.a,.j⟩) (.c (.c (.b false))),[]⟩,⟨some ⟨.a,.l⟩,none,.mv (.t ⟨.a,.k⟩),[]⟩,⟨some ⟨.a,.m⟩,some (⟨.a,.l⟩,true),.ld 5 true (.t ⟨.a,
 .b⟩),[]⟩,⟨some ⟨.a,.n⟩,some (⟨.a,.l⟩,true),.call 39 [.t ⟨.a,.m⟩],[]⟩,⟨some ⟨.a,.o⟩,some (⟨.a,.l⟩,true),.bin .leq (.t ⟨.a,.n⟩) (.c (.c (.i .i64 (.ofNat 60)))),[]⟩,⟨some ⟨.a,.p⟩,
 none,.pk (.t ⟨.a,.l⟩) (.t ⟨.a,.o⟩) (.c (.c (.b false))),[]⟩,⟨some ⟨.b,.a⟩,none,.mv (.t ⟨.a,.p⟩),[]⟩,⟨some ⟨.b,.b⟩,some (⟨.b,.a⟩,true),.fa 1 (.t ⟨.a,.b⟩),[]⟩,⟨some ⟨.b,.c⟩,some
 (⟨.b,.a⟩,true),.ld 1 false (.t ⟨.b,.b⟩),[]⟩,⟨some ⟨.b,.d⟩,some (⟨.b,.a⟩,true),.fa 2 (.t ⟨.a,.b⟩),[]⟩,⟨some ⟨.b,.e⟩,some (⟨.b,.a⟩,true),.ld 1 false (.t ⟨.b,.d⟩),[]⟩,⟨some ⟨.b,
 .f⟩,some (⟨.b,.a⟩,true),.bsl 9 1 2 [.s [],.s []] [(0,(1,.t ⟨.b,.c⟩)),(1,(1,.t ⟨.b,.e⟩))],[]⟩,⟨some ⟨.b,.g⟩,some (⟨.b,.a⟩,true),.call 40 [.t ⟨.b,.f⟩],[]⟩,⟨some ⟨.b,.h⟩,none,
 .pk (.t ⟨.b,.a⟩) (.t ⟨.b,.g⟩) (.c (.c (.b false))),[]⟩,⟨some ⟨.b,.i⟩,none,.mv (.t ⟨.b,.h⟩),[]⟩,⟨some ⟨.b,.j⟩,some (⟨.b,.i⟩,true),.fa 3 (.t ⟨.a,.b⟩),[]⟩,⟨some ⟨.b,.k⟩,some (⟨.b,
 .i⟩,true),.ld 1 false (.t ⟨.b,.j⟩),[]⟩,⟨some ⟨.b,.l⟩,some (⟨.b,.i⟩,true),.len true (.t ⟨.b,.k⟩),[]⟩,⟨some ⟨.b,.m⟩,some (⟨.b,.i⟩,true),.bin .eql (.t ⟨.b,.l⟩) (.c (.c (.i .i64
 (.ofNat 0)))),[]⟩,⟨some ⟨.b,.n⟩,none,.pk (.t ⟨.b,.i⟩) (.t ⟨.b,.m⟩) (.c (.c (.b false))),[]⟩,⟨some ⟨.b,.o⟩,none,.mv (.t ⟨.b,.n⟩),[]⟩,⟨some ⟨.b,.p⟩,some (⟨.b,.o⟩,true),.ld 5 true
 (.t ⟨.a,.b⟩),[]⟩,⟨some ⟨.c,.a⟩,some (⟨.b,.o⟩,true),.call 41 [.t ⟨.b,.p⟩],[]⟩,⟨some ⟨.c,.b⟩,none,.pk (.t ⟨.b,.o⟩) (.t ⟨.c,.a⟩) (.c (.c (.b false))),[]⟩,⟨some ⟨.a,.c⟩,none,.mv (.t
 ⟨.c,.b⟩),[]⟩]) .ret),[(⟨.a,.c⟩,none)]⟩
theorem ok23 : FnR Tryz.prog 0 23 cf23 := fnC_ok [] Tryz.func23 (by kernel_rfl) (by kernel_rfl)
def cf28 : CF := ⟨59,1,.seq (.reg [⟨some ⟨.a,.c⟩,none,.mv (.c (.c (.s []))),[]⟩]) (.seq (.reg [⟨some ⟨.a,.d⟩,none,.mv (.c (.c (.s []))),[]⟩]) (.seq (.seq (.reg [⟨some ⟨.a,.e⟩,none,.mv (.c (.c (.i .i64
 (.ofNat 0)))),[]⟩]) (.blk 0 (.loop (.seq (.seq (.reg [⟨some ⟨.a,.j⟩,none,.len false (.t ⟨.a,.a⟩),[]⟩,⟨some ⟨.a,.k⟩,none,.bin .lss (.t ⟨.a,.e⟩) (.t ⟨.a,.j⟩),[]⟩]) (.cond (.t ⟨.a,.k⟩)
 .skip (.exit 0))) (.blk 1 (.seq (.reg [⟨some ⟨.a,.o⟩,none,.call 45 [.t ⟨.a,.a⟩,.t ⟨.a,.e⟩],[]⟩,⟨some ⟨.a,.p⟩,none,.ext 0 (.t ⟨.a,.o⟩),[]⟩,⟨some ⟨.b,.a⟩,none,.ext 1 (.t ⟨.a,.o⟩),
 []⟩,⟨some ⟨.a,.g⟩,none,.mv (.t ⟨.b,.a⟩),[]⟩]) (.seq (.blk 2 (.seq (.reg [⟨some ⟨.b,.l⟩,none,.bin .eql (.t ⟨.a,.g⟩) (.c (.c (.i .i64 (.ofNat 0)))),[]⟩,⟨some ⟨.b,.m⟩,none,.mv (.t ⟨.b,
 .l⟩),[]⟩,⟨some ⟨.b,.n⟩,some (⟨.b,.m⟩,false),.mv (.t ⟨.a,.a⟩),[]⟩,⟨some ⟨.b,.o⟩,some (⟨.b,.m⟩,false),.mv (.t ⟨.a,.e⟩),[]⟩,⟨some ⟨.b,.p⟩,some (⟨.b,.m⟩,false),.sx (.t ⟨.b,.n⟩)
 (.t ⟨.b,.o⟩),[]⟩,⟨some ⟨.c,.a⟩,some (⟨.b,.m⟩,false),.bin .eql (.t ⟨.b,.p⟩) (.c (.c (.i .u8 (.ofNat 0)))),[]⟩,⟨some ⟨.c,.b⟩,none,.pk (.t ⟨.b,.m⟩) (.c (.c (.b true))) (.t ⟨.c,.a⟩),[]⟩,
 ⟨some ⟨.b,.j⟩,none,.mv (.t ⟨.c,.b⟩),[]⟩]) (.cond (.t ⟨.b,.j⟩) (.seq (.reg [⟨some ⟨.c,.d⟩,none,.bin .add (.t ⟨.a,.d⟩) (.c (.c (.s [239,191,189]))),[]⟩,⟨some ⟨.a,.d⟩,none,.mv (.t ⟨.c,
 .d⟩),[]⟩]) (.reg [⟨some ⟨.a,.g⟩,none,.mv (.c (.c (.i .i64 (.ofNat 1)))),[]⟩])) (.seq (.reg [⟨some ⟨.c,.h⟩,none,.sx (.t ⟨.a,.a⟩) (.t ⟨.a,.e⟩),[]⟩,⟨some ⟨.c,.i⟩,none,.bin .eql (.t ⟨.c,
 .h⟩) (.c (.c (.i .u8 (.ofNat 13)))),[]⟩,⟨some ⟨.c,.e⟩,none,.mv (.t ⟨.c,.i⟩),[]⟩]) (.cond (.t ⟨.c,.e⟩) (.seq (.reg [⟨some ⟨.c,.k⟩,none,.bin .add (.t ⟨.a,.d⟩) (.c (.c (.s [10]))),[]⟩,
 ⟨some ⟨.a,.d⟩,none,.mv (.t ⟨.c,.k⟩),[]⟩]) (.seq (.reg [⟨some ⟨.c,.m⟩,none,.bin .add (.t ⟨.a,.e⟩) (.c (.c (.i .i64 (.ofNat 1)))),[]⟩,⟨some ⟨.c,.o⟩,none,.len false (.t ⟨.a,.a⟩),[]⟩,
 ⟨some ⟨.c,.p⟩,none,.bin .lss (.t ⟨.c,.m⟩) (.t ⟨.c,.o⟩),[]⟩,⟨some ⟨.d,.a⟩,none,.mv (.t ⟨.c,.p⟩),[]⟩,⟨some ⟨.d,.b⟩,some (⟨.d,.a⟩,true),.mv (.t ⟨.a,.a⟩),[]⟩,⟨some ⟨.d,.c⟩,some
 (⟨.d,.a⟩,true),.mv (.t ⟨.a,.e⟩),[]⟩,⟨some ⟨.d,.d⟩,some (⟨.d,.a⟩,true),.bin .add (.t ⟨.d,.c⟩) (.c (.c (.i .i64 (.ofNat 1)))),[]⟩,⟨some ⟨.d,.e⟩,some (⟨.d,.a⟩,true),.sx (.t ⟨.d,.b⟩)
 (.t ⟨.d,.d⟩),[]⟩,⟨some ⟨.d,.f⟩,some (⟨.d,.a⟩,true),.bin .eql (.t ⟨.d,.e⟩) (.c (.c (.i .u8 (.ofNat 10)))),[]⟩,⟨some ⟨.d,.g⟩,none,.pk (.t ⟨.d,.a⟩) (.t ⟨.d,.f⟩) (.c (.c (.b false))),
 []⟩]) (.cond (.t ⟨.d,.g⟩) (.reg [⟨some ⟨.a,.g⟩,none,.mv (.c (.c (.i .i64 (.ofNat 2)))),[]⟩]) .skip))) (.reg [⟨some ⟨.b,.g⟩,none,.bin .add (.t ⟨.a,.e⟩) (.t ⟨.a,.g⟩),[]⟩,⟨some ⟨.b,.h⟩,
 none,.sls (.t ⟨.a,.a⟩) (some (.t ⟨.a,.e⟩)) (some (.t ⟨.b,.g⟩)),[]⟩,⟨some ⟨.b,.i⟩,none,.bin .add (.t ⟨.a,.d⟩) (.t ⟨.b,.h⟩),[]⟩,⟨some ⟨.a,.d⟩,none,.mv (.t ⟨.b,.i⟩),[]⟩])))))) (.reg
 [⟨some ⟨.d,.j⟩,none,.bin .add (.t ⟨.a,.e⟩) (.t ⟨.a,.g⟩),[]⟩,⟨some ⟨.a,.e⟩,none,.mv (.t ⟨.d,.j⟩),[]⟩])))))))) (.seq (.reg [⟨some ⟨.a,.c⟩,none,.mv (.t ⟨.a,.d⟩),[]⟩]) .ret))),[(⟨.a,
 .c⟩,none)]⟩
theorem ok28 : FnR Tryz.prog 0 28 cf28 := fnC_ok [5,7,8,11,12,13,17,18,19,20,21,26,34,37,38,41,43,45,55,56,58] Tryz.func28 (by kernel_rfl) (by kernel_rfl)
def cf29 : CF := ⟨160,3,.seq (.reg [⟨some ⟨.a,.g⟩,none,.new 51 (.c (.a [.i .i64 (.ofNat 0),.s [],.s [],.sl none 0 0 0,.b false])),[]⟩,⟨some ⟨.a,.h⟩,none,.mv (.c (.c (.i .i64 (.ofNat 0)))),[]⟩,⟨some
 ⟨.a,.i⟩,none,.mv (.c (.c (.b false))),[]⟩]) (.seq (.seq (.reg [⟨some ⟨.a,.n⟩,none,.bin .lss (.t ⟨.a,.b⟩) (.c (.c (.i .i64 (.ofNat 0)))),[]⟩,⟨some ⟨.a,.o⟩,none,.mv (.t ⟨.a,.n⟩),[]⟩,
 ⟨some ⟨.a,.p⟩,some (⟨.a,.o⟩,false),.mv (.t ⟨.a,.b⟩),[]⟩,⟨some ⟨.b,.a⟩,some (⟨.a,.o⟩,false),.mv (.t ⟨.a,.a⟩),[]⟩,⟨some ⟨.b,.b⟩,some (⟨.a,.o⟩,false),.len false (.t ⟨.b,.a⟩),[]⟩,
 ⟨some ⟨.b,.c⟩,some (⟨.a,.o⟩,false),.bin .geq (.t ⟨.a,.p⟩) (.t ⟨.b,.b⟩),[]⟩,⟨some ⟨.b,.d⟩,none,.pk (.t ⟨.a,.o⟩) (.c (.c (.b true))) (.t ⟨.b,.c⟩),[]⟩]) (.cond (.t ⟨.b,.d⟩) (.seq (.reg
 [⟨some ⟨.b,.e⟩,none,.bld [.i .i64 (.ofNat 0),.s [],.s [],.sl none 0 0 0,.b false] [(0,(1,.c (.c (.i .i64 (.ofNat 6)))))],[]⟩,⟨some ⟨.b,.g⟩,none,.len false (.t ⟨.a,.a⟩),[]⟩,⟨none,
 none,.st 5 (.t ⟨.a,.g⟩) (.t ⟨.b,.e⟩),[]⟩,⟨some ⟨.a,.h⟩,none,.mv (.t ⟨.b,.g⟩),[]⟩,⟨some ⟨.a,.i⟩,none,.mv (.c (.c (.b true))),[]⟩]) .ret) .skip)) (.seq (.seq (.reg [⟨some ⟨.b,.i⟩,none,
 .bin .neq (.t ⟨.a,.c⟩) (.c (.c (.s []))),[]⟩]) (.cond (.t ⟨.b,.i⟩) (.seq (.reg [⟨some ⟨.b,.k⟩,none,.call 46 [.t ⟨.a,.c⟩],[]⟩,⟨some ⟨.a,.j⟩,none,.mv (.t ⟨.b,.k⟩),[]⟩]) (.seq (.reg [⟨some
 ⟨.a,.k⟩,none,.mv (.t ⟨.a,.b⟩),[]⟩]) (.seq (.blk 0 (.loop (.seq (.seq (.reg [⟨some ⟨.b,.o⟩,none,.len false (.t ⟨.a,.a⟩),[]⟩,⟨some ⟨.b,.p⟩,none,.bin .lss (.t ⟨.a,.k⟩) (.t ⟨.b,.o⟩),[]⟩,
 ⟨some ⟨.c,.a⟩,none,.mv (.t ⟨.b,.p⟩),[]⟩,⟨some ⟨.c,.b⟩,some (⟨.c,.a⟩,true),.mv (.t ⟨.a,.a⟩),[]⟩,⟨some ⟨.c,.c⟩,some (⟨.c,.a⟩,true),.mv (.t ⟨.a,.k⟩),[]⟩,⟨some ⟨.c,.d⟩,some (⟨.c,
 .a⟩,true),.mv (.t ⟨.a,.j⟩),[]⟩,⟨some ⟨.c,.e⟩,some (⟨.c,.a⟩,true),.call 47 [.t ⟨.c,.b⟩,.t ⟨.c,.c⟩,.t ⟨.c,.d⟩],[]⟩,⟨some ⟨.c,.f⟩,some (⟨.c,.a⟩,true),.un .not (.t ⟨.c,.e⟩),[]⟩,
 ⟨some ⟨.c,.g⟩,none,.pk (.t ⟨.c,.a⟩) (.t ⟨.c,.f⟩) (.c (.c (.b false))),[]⟩]) (.cond (.t ⟨.c,.g⟩) .skip (.exit 0))) (.blk 1 (.reg [⟨some ⟨.c,.i⟩,none,.bin .add (.t ⟨.a,.k⟩) (.c (.c (.i .i64
 (.ofNat 1)))),[]⟩,⟨some ⟨.a,.k⟩,none,.mv (.t ⟨.c,.i⟩),[]⟩]))))) (.seq (.reg [⟨some ⟨.c,.l⟩,none,.bin .gtr (.t ⟨.a,.k⟩) (.t ⟨.a,.b⟩),[]⟩]) (.cond (.t ⟨.c,.l⟩) (.seq (.reg [⟨some ⟨.c,
 .p⟩,none,.sls (.t ⟨.a,.a⟩) (some (.t ⟨.a,.b⟩)) (some (.t ⟨.a,.k⟩)),[]⟩,⟨some ⟨.a,.l⟩,none,.mv (.t ⟨.c,.p⟩),[]⟩]) (.seq (.seq (.reg [⟨some ⟨.d,.b⟩,none,.call 30 [.t ⟨.a,.j⟩],[]⟩,
 ⟨some ⟨.d,.c⟩,none,.bin .eql (.t ⟨.d,.b⟩) (.c (.c (.i .i64 (.ofNat 1)))),[]⟩]) (.cond (.t ⟨.d,.c⟩) (.reg [⟨some ⟨.d,.e⟩,none,.call 48 [.t ⟨.a,.l⟩,.c (.c (.b false))],[]⟩,⟨some ⟨.a,.l⟩,
 none,.mv (.t ⟨.d,.e⟩),[]⟩]) .skip)) (.seq (.reg [⟨some ⟨.d,.g⟩,none,.bld [.i .i64 (.ofNat 0),.s [],.s [],.sl none 0 0 0,.b false] [(0,(1,.c (.c (.i .i64 (.ofNat 3))))),(2,(1,.t ⟨.a,
 .l⟩)),(4,(1,.c (.c (.b true))))],[]⟩,⟨none,none,.st 5 (.t ⟨.a,.g⟩) (.t ⟨.d,.g⟩),[]⟩,⟨some ⟨.a,.h⟩,none,.mv (.t ⟨.a,.k⟩),[]⟩,⟨some ⟨.a,.i⟩,none,.mv (.c (.c (.b true))),[]⟩])
 .ret))) .skip))))) .skip)) (.seq (.blk 2 (.seq (.reg [⟨some ⟨.d,.l⟩,none,.sx (.t ⟨.a,.a⟩) (.t ⟨.a,.b⟩),[]⟩,⟨some ⟨.d,.m⟩,none,.bin .neq (.t ⟨.d,.l⟩) (.c (.c (.i .u8 (.ofNat 60)))),[]⟩,
 ⟨some ⟨.d,.i⟩,none,.mv (.t ⟨.d,.m⟩),[]⟩]) (.cond (.t ⟨.d,.i⟩) (.seq (.reg [⟨some ⟨.d,.p⟩,none,.call 49 [.t ⟨.a,.a⟩,.t ⟨.a,.b⟩],[]⟩,⟨some ⟨.e,.a⟩,none,.ext 0 (.t ⟨.d,.p⟩),[]⟩,⟨some
 ⟨.e,.b⟩,none,.ext 1 (.t ⟨.d,.p⟩),[]⟩,⟨some ⟨.e,.c⟩,none,.ext 2 (.t ⟨.d,.p⟩),[]⟩,⟨none,none,.st 5 (.t ⟨.a,.g⟩) (.t ⟨.e,.a⟩),[]⟩,⟨some ⟨.a,.h⟩,none,.mv (.t ⟨.e,.b⟩),[]⟩,⟨some
 ⟨.a,.i⟩,none,.mv (.t ⟨.e,.c⟩),[]⟩]) .ret) (.seq (.reg [⟨some ⟨.e,.g⟩,none,.bin .add (.t ⟨.a,.b⟩) (.c (.c (.i .i64 (.ofNat 1)))),[]⟩,⟨some ⟨.e,.h⟩,none,.call 50 [.t ⟨.a,.a⟩,.t ⟨.e,
 .g⟩],[]⟩,⟨some ⟨.e,.d⟩,none,.mv (.t ⟨.e,.h⟩),[]⟩]) (.cond (.t ⟨.e,.d⟩) (.seq (.reg [⟨some ⟨.e,.k⟩,none,.bin .add (.t ⟨.a,.b⟩) (.c (.c (.i .i64 (.ofNat 1)))),[]⟩,⟨some ⟨.e,.l⟩,none,
 .call 51 [.t ⟨.a,.a⟩,.t ⟨.e,.k⟩,.c (.c (.i .i64 (.ofNat 1)))],[]⟩,⟨some ⟨.e,.m⟩,none,.ext 0 (.t ⟨.e,.l⟩),[]⟩,⟨some ⟨.e,.n⟩,none,.ext 1 (.t ⟨.e,.l⟩),[]⟩,⟨some ⟨.e,.o⟩,none,.ext 2
 (.t ⟨.e,.l⟩),[]⟩,⟨none,none,.st 5 (.t ⟨.a,.g⟩) (.t ⟨.e,.m⟩),[]⟩,⟨some ⟨.a,.h⟩,none,.mv (.t ⟨.e,.n⟩),[]⟩,⟨some ⟨.a,.i⟩,none,.mv (.t ⟨.e,.o⟩),[]⟩]) .ret) (.seq (.reg [⟨some ⟨.f,
 .c⟩,none,.call 52 [.t ⟨.a,.a⟩,.t ⟨.a,.b⟩,.c (.c (.s [60,47]))],[]⟩,⟨some ⟨.f,.d⟩,none,.mv (.t ⟨.f,.c⟩),[]⟩,⟨some ⟨.f,.e⟩,some (⟨.f,.d⟩,true),.mv (.t ⟨.a,.a⟩),[]⟩,⟨some ⟨.f,
 .f⟩,some (⟨.f,.d⟩,true),.mv (.t ⟨.a,.b⟩),[]⟩,⟨some ⟨.f,.g⟩,some (⟨.f,.d⟩,true),.bin .add (.t ⟨.f,.f⟩) (.c (.c (.i .i64 (.ofNat 2)))),[]⟩,⟨some ⟨.f,.h⟩,some (⟨.f,.d⟩,true),.call 50
 [.t ⟨.f,.e⟩,.t ⟨.f,.g⟩],[]⟩,⟨some ⟨.f,.i⟩,none,.pk (.t ⟨.f,.d⟩) (.t ⟨.f,.h⟩) (.c (.c (.b false))),[]⟩,⟨some ⟨.e,.p⟩,none,.mv (.t ⟨.f,.i⟩),[]⟩]) (.cond (.t ⟨.e,.p⟩) (.seq (.reg
 [⟨some ⟨.f,.l⟩,none,.bin .add (.t ⟨.a,.b⟩) (.c (.c (.i .i64 (.ofNat 2)))),[]⟩,⟨some ⟨.f,.m⟩,none,.call 51 [.t ⟨.a,.a⟩,.t ⟨.f,.l⟩,.c (.c (.i .i64 (.ofNat 2)))],[]⟩,⟨some ⟨.f,.n⟩,none,
 .ext 0 (.t ⟨.f,.m⟩),[]⟩,⟨some ⟨.f,.o⟩,none,.ext 1 (.t ⟨.f,.m⟩),[]⟩,⟨some ⟨.f,.p⟩,none,.ext 2 (.t ⟨.f,.m⟩),[]⟩,⟨none,none,.st 5 (.t ⟨.a,.g⟩) (.t ⟨.f,.n⟩),[]⟩,⟨some ⟨.a,.h⟩,none,
 .mv (.t ⟨.f,.o⟩),[]⟩,⟨some ⟨.a,.i⟩,none,.mv (.t ⟨.f,.p⟩),[]⟩]) .ret) (.seq (.reg [⟨some ⟨.g,.d⟩,none,.call 52 [.t ⟨.a,.a⟩,.t ⟨.a,.b⟩,.c (.c (.s [60,33,45,45]))],[]⟩,⟨some ⟨.g,
 .a⟩,none,.mv (.t ⟨.g,.d⟩),[]⟩]) (.cond (.t ⟨.g,.a⟩) (.seq (.reg [⟨some ⟨.g,.g⟩,none,.bin .add (.t ⟨.a,.b⟩) (.c (.c (.i .i64 (.ofNat 4)))),[]⟩,⟨some ⟨.g,.h⟩,none,.call 53 [.t ⟨.a,.a⟩,
 .t ⟨.g,.g⟩],[]⟩,⟨some ⟨.g,.i⟩,none,.ext 0 (.t ⟨.g,.h⟩),[]⟩,⟨some ⟨.g,.j⟩,none,.ext 1 (.t ⟨.g,.h⟩),[]⟩,⟨some ⟨.g,.k⟩,none,.ext 2 (.t ⟨.g,.h⟩),[]⟩,⟨none,none,.st 5 (.t ⟨.a,.g⟩)
 (.t ⟨.g,.i⟩),[]⟩,⟨some ⟨.a,.h⟩,none,.mv (.t ⟨.g,.j⟩),[]⟩,⟨some ⟨.a,.i⟩,none,.mv (.t ⟨.g,.k⟩),[]⟩]) .ret) (.seq (.reg [⟨some ⟨.g,.o⟩,none,.call 52 [.t ⟨.a,.a⟩,.t ⟨.a,.b⟩,.c (.c
 (.s [60,33,100,111,99,116,121,112,101]))],[]⟩,⟨some ⟨.g,.l⟩,none,.mv (.t ⟨.g,.o⟩),[]⟩]) (.cond (.t ⟨.g,.l⟩) (.seq (.reg [⟨some ⟨.h,.b⟩,none,.bin .add (.t ⟨.a,.b⟩) (.c (.c (.i .i64
 (.ofNat 9)))),[]⟩,⟨some ⟨.h,.c⟩,none,.call 54 [.t ⟨.a,.a⟩,.t ⟨.h,.b⟩],[]⟩,⟨some ⟨.h,.d⟩,none,.ext 0 (.t ⟨.h,.c⟩),[]⟩,⟨some ⟨.h,.e⟩,none,.ext 1 (.t ⟨.h,.c⟩),[]⟩,⟨some ⟨.h,.f⟩,
 none,.ext 2 (.t ⟨.h,.c⟩),[]⟩,⟨none,none,.st 5 (.t ⟨.a,.g⟩) (.t ⟨.h,.d⟩),[]⟩,⟨some ⟨.a,.h⟩,none,.mv (.t ⟨.h,.e⟩),[]⟩,⟨some ⟨.a,.i⟩,none,.mv (.t ⟨.h,.f⟩),[]⟩]) .ret) (.seq (.reg
 [⟨some ⟨.h,.j⟩,none,.call 52 [.t ⟨.a,.a⟩,.t ⟨.a,.b⟩,.c (.c (.s [60,47,62]))],[]⟩,⟨some ⟨.h,.g⟩,none,.mv (.t ⟨.h,.j⟩),[]⟩]) (.cond (.t ⟨.h,.g⟩) (.seq (.reg [⟨some ⟨.h,.k⟩,none,.bld
 [.i .i64 (.ofNat 0),.s [],.s [],.sl none 0 0 0,.b false] [],[]⟩,⟨some ⟨.h,.m⟩,none,.bin .add (.t ⟨.a,.b⟩) (.c (.c (.i .i64 (.ofNat 3)))),[]⟩,⟨none,none,.st 5 (.t ⟨.a,.g⟩) (.t ⟨.h,
 .k⟩),[]⟩,⟨some ⟨.a,.h⟩,none,.mv (.t ⟨.h,.m⟩),[]⟩,⟨some ⟨.a,.i⟩,none,.mv (.c (.c (.b false))),[]⟩]) .ret) (.seq (.seq (.reg [⟨some ⟨.i,.a⟩,none,.call 52 [.t ⟨.a,.a⟩,.t ⟨.a,.b⟩,.c
 (.c (.s [60,33]))],[]⟩,⟨some ⟨.h,.n⟩,none,.mv (.t ⟨.i,.a⟩),[]⟩]) (.cond (.t ⟨.h,.n⟩) .skip (.reg [⟨some ⟨.i,.d⟩,none,.call 52 [.t ⟨.a,.a⟩,.t ⟨.a,.b⟩,.c (.c (.s [60,47]))],[]⟩,⟨some
 ⟨.i,.e⟩,none,.mv (.t ⟨.i,.d⟩),[]⟩,⟨some ⟨.i,.f⟩,some (⟨.i,.e⟩,true),.mv (.t ⟨.a,.b⟩),[]⟩,⟨some ⟨.i,.g⟩,some (⟨.i,.e⟩,true),.bin .add (.t ⟨.i,.f⟩) (.c (.c (.i .i64 (.ofNat 2)))),
 []⟩,⟨some ⟨.i,.h⟩,some (⟨.i,.e⟩,true),.mv (.t ⟨.a,.a⟩),[]⟩,⟨some ⟨.i,.i⟩,some (⟨.i,.e⟩,true),.len false (.t ⟨.i,.h⟩),[]⟩,⟨some ⟨.i,.j⟩,some (⟨.i,.e⟩,true),.bin .lss (.t ⟨.i,
 .g⟩) (.t ⟨.i,.i⟩),[]⟩,⟨some ⟨.i,.k⟩,none,.pk (.t ⟨.i,.e⟩) (.t ⟨.i,.j⟩) (.c (.c (.b false))),[]⟩,⟨some ⟨.h,.n⟩,none,.mv (.t ⟨.i,.k⟩),[]⟩]))) (.cond (.t ⟨.h,.n⟩) (.seq (.reg [⟨some ⟨.i,
 .n⟩,none,.bin .add (.t ⟨.a,.b⟩) (.c (.c (.i .i64 (.ofNat 2)))),[]⟩,⟨some ⟨.i,.o⟩,none,.call 55 [.t ⟨.a,.a⟩,.t ⟨.i,.n⟩],[]⟩,⟨some ⟨.i,.p⟩,none,.ext 0 (.t ⟨.i,.o⟩),[]⟩,⟨some ⟨.j,
 .a⟩,none,.ext 1 (.t ⟨.i,.o⟩),[]⟩,⟨some ⟨.j,.b⟩,none,.ext 2 (.t ⟨.i,.o⟩),[]⟩,⟨none,none,.st 5 (.t ⟨.a,.g⟩) (.t ⟨.i,.p⟩),[]⟩,⟨some ⟨.a,.h⟩,none,.mv (.t ⟨.j,.a⟩),[]⟩,⟨some ⟨.a,
 .i⟩,none,.mv (.t ⟨.j,.b⟩),[]⟩]) .ret) (.seq (.reg [⟨some ⟨.j,.f⟩,none,.call 52 [.t ⟨.a,.a⟩,.t ⟨.a,.b⟩,.c (.c (.s [60,63]))],[]⟩,⟨some ⟨.j,.c⟩,none,.mv (.t ⟨.j,.f⟩),[]⟩]) (.cond (.t
 ⟨.j,.c⟩) (.seq (.reg [⟨some ⟨.j,.i⟩,none,.bin .add (.t ⟨.a,.b⟩) (.c (.c (.i .i64 (.ofNat 1)))),[]⟩,⟨some ⟨.j,.j⟩,none,.call 55 [.t ⟨.a,.a⟩,.t ⟨.j,.i⟩],[]⟩,⟨some ⟨.j,.k⟩,none,.ext 0
 (.t ⟨.j,.j⟩),[]⟩,⟨some ⟨.j,.l⟩,none,.ext 1 (.t ⟨.j,.j⟩),[]⟩,⟨some ⟨.j,.m⟩,none,.ext 2 (.t ⟨.j,.j⟩),[]⟩,⟨none,none,.st 5 (.t ⟨.a,.g⟩) (.t ⟨.j,.k⟩),[]⟩,⟨some ⟨.a,.h⟩,none,.mv
 (.t ⟨.j,.l⟩),[]⟩,⟨some ⟨.a,.i⟩,none,.mv (.t ⟨.j,.m⟩),[]⟩]) .ret) .skip))))))))))))))))) (.seq (.reg [⟨some ⟨.j,.n⟩,none,.bld [.i .i64 (.ofNat 0),.s [],.s [],.sl none 0 0 0,.b false]
 [(0,(1,.c (.c (.i .i64 (.ofNat 3))))),(2,(1,.c (.c (.s [60]))))],[]⟩,⟨some ⟨.j,.p⟩,none,.bin .add (.t ⟨.a,.b⟩) (.c (.c (.i .i64 (.ofNat 1)))),[]⟩,⟨none,none,.st 5 (.t ⟨.a,.g⟩) (.t
 ⟨.j,.n⟩),[]⟩,⟨some ⟨.a,.h⟩,none,.mv (.t ⟨.j,.p⟩),[]⟩,⟨some ⟨.a,.i⟩,none,.mv (.c (.c (.b true))),[]⟩]) .ret)))),[(⟨.a,.g⟩,some (5,true)),(⟨.a,.h⟩,none),(⟨.a,.i⟩,none)]⟩
theorem ok29 : FnR Tryz.prog 0 29 cf29 := fnC_ok [12,21,23,25,27,28,29,39,41,42,44,45,46,48,51,53,55,57,58,61,62,68,69,72,73,80,81,89,90,97,98,100,101,108,109,111,112,119,120,123,126,127,129,130,139,140,147,148,150,151,158] Tryz.func29 (by kernel_rfl) (by kernel_rfl)
def cf30 : CF := ⟨14,1,.seq (.reg [⟨some ⟨.a,.c⟩,none,.mv (.c (.c (.i .i64 (.ofNat 0)))),[]⟩]) (.seq (.seq (.reg [⟨some ⟨.a,.d⟩,none,.mv (.t ⟨.a,.a⟩),[]⟩]) (.blk 0 (.seq (.seq (.reg [⟨some ⟨.a,.f⟩,none,
 .bin .eql (.t ⟨.a,.d⟩) (.c (.c (.s [116,105,116,108,101]))),[]⟩,⟨some ⟨.a,.e⟩,none,.mv (.t ⟨.a,.f⟩),[]⟩]) (.cond (.t ⟨.a,.e⟩) .skip (.reg [⟨some ⟨.a,.g⟩,none,.bin .eql (.t ⟨.a,.d⟩)
 (.c (.c (.s [116,101,120,116,97,114,101,97]))),[]⟩,⟨some ⟨.a,.e⟩,none,.mv (.t ⟨.a,.g⟩),[]⟩]))) (.cond (.t ⟨.a,.e⟩) (.seq (.reg [⟨some ⟨.a,.c⟩,none,.mv (.c (.c (.i .i64 (.ofNat
 1)))),[]⟩]) .ret) (.seq (.seq (.reg [⟨some ⟨.a,.i⟩,none,.bin .eql (.t ⟨.a,.d⟩) (.c (.c (.s [115,116,121,108,101]))),[]⟩,⟨some ⟨.a,.h⟩,none,.mv (.t ⟨.a,.i⟩),[]⟩]) (.cond (.t ⟨.a,.h⟩)
 .skip (.seq (.reg [⟨some ⟨.a,.j⟩,none,.bin .eql (.t ⟨.a,.d⟩) (.c (.c (.s [115,99,114,105,112,116]))),[]⟩,⟨some ⟨.a,.h⟩,none,.mv (.t ⟨.a,.j⟩),[]⟩]) (.cond (.t ⟨.a,.h⟩) .skip (.seq
 (.reg [⟨some ⟨.a,.k⟩,none,.bin .eql (.t ⟨.a,.d⟩) (.c (.c (.s [120,109,112]))),[]⟩,⟨some ⟨.a,.h⟩,none,.mv (.t ⟨.a,.k⟩),[]⟩]) (.cond (.t ⟨.a,.h⟩) .skip (.seq (.reg [⟨some ⟨.a,.l⟩,none,
 .bin .eql (.t ⟨.a,.d⟩) (.c (.c (.s [105,102,114,97,109,101]))),[]⟩,⟨some ⟨.a,.h⟩,none,.mv (.t ⟨.a,.l⟩),[]⟩]) (.cond (.t ⟨.a,.h⟩) .skip (.seq (.reg [⟨some ⟨.a,.m⟩,none,.bin .eql (.t
 ⟨.a,.d⟩) (.c (.c (.s [110,111,101,109,98,101,100]))),[]⟩,⟨some ⟨.a,.h⟩,none,.mv (.t ⟨.a,.m⟩),[]⟩]) (.cond (.t ⟨.a,.h⟩) .skip (.reg [⟨some ⟨.a,.n⟩,none,.bin .eql (.t ⟨.a,.d⟩) (.c
 (.c (.s [110,111,102,114,97,109,101,115]))),[]⟩,⟨some ⟨.a,.h⟩,none,.mv (.t ⟨.a,.n⟩),[]⟩]))))))))))) (.cond (.t ⟨.a,.h⟩) (.seq (.reg [⟨some ⟨.a,.c⟩,none,.mv (.c (.c (.i .i64 (.ofNat
 2)))),[]⟩]) .ret) .skip)))))) (.seq (.reg [⟨some ⟨.a,.c⟩,none,.mv (.c (.c (.i .i64 (.ofNat 0)))),[]⟩]) .ret)),[(⟨.a,.c⟩,none)]⟩
theorem ok30 : FnR Tryz.prog 0 30 cf30 := fnC_ok [] Tryz.func30 (by kernel_rfl) (by kernel_rfl)
def cf31 : CF := ⟨40,1,.seq (.reg [⟨some ⟨.a,.c⟩,none,.mv (.c (.c (.b false))),[]⟩]) (.seq (.seq (.reg [⟨some ⟨.a,.g⟩,none,.bin .eql (.t ⟨.a,.a⟩) (.c (.c (.s []))),[]⟩,⟨some ⟨.a,.h⟩,none,.mv (.t ⟨.a,
 .g⟩),[]⟩,⟨some ⟨.a,.i⟩,some (⟨.a,.h⟩,false),.mv (.t ⟨.a,.a⟩),[]⟩,⟨some ⟨.a,.j⟩,some (⟨.a,.h⟩,false),.len false (.t ⟨.a,.i⟩),[]⟩,⟨some ⟨.a,.k⟩,some (⟨.a,.h⟩,false),.bin .gtr (.t
 ⟨.a,.j⟩) (.c (.c (.i .i64 (.ofNat 32)))),[]⟩,⟨some ⟨.a,.l⟩,none,.pk (.t ⟨.a,.h⟩) (.c (.c (.b true))) (.t ⟨.a,.k⟩),[]⟩]) (.cond (.t ⟨.a,.l⟩) (.seq (.reg [⟨some ⟨.a,.c⟩,none,.mv (.c (.c
 (.b false))),[]⟩]) .ret) .skip)) (.seq (.seq (.reg [⟨some ⟨.a,.n⟩,none,.len false (.t ⟨.a,.a⟩),[]⟩,⟨some ⟨.a,.o⟩,none,.mv (.c (.c (.i .i64 (.ofNat 0)))),[]⟩]) (.blk 0 (.loop (.seq (.reg
 [⟨some ⟨.a,.p⟩,none,.bin .lss (.t ⟨.a,.o⟩) (.t ⟨.a,.n⟩),[]⟩]) (.seq (.cond (.t ⟨.a,.p⟩) .skip (.exit 0)) (.seq (.blk 1 (.seq (.reg [⟨some ⟨.a,.d⟩,none,.mv (.t ⟨.a,.o⟩),[]⟩]) (.seq (.reg
 [⟨some ⟨.b,.d⟩,none,.sx (.t ⟨.a,.a⟩) (.t ⟨.a,.d⟩),[]⟩,⟨some ⟨.a,.e⟩,none,.mv (.t ⟨.b,.d⟩),[]⟩]) (.seq (.reg [⟨some ⟨.b,.e⟩,none,.mv (.t ⟨.a,.e⟩),[]⟩]) (.blk 2 (.seq (.seq (.reg
 [⟨some ⟨.b,.m⟩,none,.bin .eql (.t ⟨.b,.e⟩) (.c (.c (.i .u8 (.ofNat 9)))),[]⟩,⟨some ⟨.b,.l⟩,none,.mv (.t ⟨.b,.m⟩),[]⟩]) (.cond (.t ⟨.b,.l⟩) .skip (.seq (.reg [⟨some ⟨.b,.n⟩,none,.bin
 .eql (.t ⟨.b,.e⟩) (.c (.c (.i .u8 (.ofNat 10)))),[]⟩,⟨some ⟨.b,.l⟩,none,.mv (.t ⟨.b,.n⟩),[]⟩]) (.cond (.t ⟨.b,.l⟩) .skip (.seq (.reg [⟨some ⟨.b,.o⟩,none,.bin .eql (.t ⟨.b,.e⟩) (.c (.c
 (.i .u8 (.ofNat 12)))),[]⟩,⟨some ⟨.b,.l⟩,none,.mv (.t ⟨.b,.o⟩),[]⟩]) (.cond (.t ⟨.b,.l⟩) .skip (.seq (.reg [⟨some ⟨.b,.p⟩,none,.bin .eql (.t ⟨.b,.e⟩) (.c (.c (.i .u8 (.ofNat 32)))),[]⟩,
 ⟨some ⟨.b,.l⟩,none,.mv (.t ⟨.b,.p⟩),[]⟩]) (.cond (.t ⟨.b,.l⟩) .skip (.seq (.reg [⟨some ⟨.c,.a⟩,none,.bin .eql (.t ⟨.b,.e⟩) (.c (.c (.i .u8 (.ofNat 0)))),[]⟩,⟨some ⟨.b,.l⟩,none,.mv (.t
 ⟨.c,.a⟩),[]⟩]) (.cond (.t ⟨.b,.l⟩) .skip (.seq (.reg [⟨some ⟨.c,.b⟩,none,.bin .eql (.t ⟨.b,.e⟩) (.c (.c (.i .u8 (.ofNat 34)))),[]⟩,⟨some ⟨.b,.l⟩,none,.mv (.t ⟨.c,.b⟩),[]⟩]) (.cond (.t
 ⟨.b,.l⟩) .skip (.seq (.reg [⟨some ⟨.c,.c⟩,none,.bin .eql (.t ⟨.b,.e⟩) (.c (.c (.i .u8 (.ofNat 39)))),[]⟩,⟨some ⟨.b,.l⟩,none,.mv (.t ⟨.c,.c⟩),[]⟩]) (.cond (.t ⟨.b,.l⟩) .skip (.seq (.reg
 [⟨some ⟨.c,.d⟩,none,.bin .eql (.t ⟨.b,.e⟩) (.c (.c (.i .u8 (.ofNat 62)))),[]⟩,⟨some ⟨.b,.l⟩,none,.mv (.t ⟨.c,.d⟩),[]⟩]) (.cond (.t ⟨.b,.l⟩) .skip (.seq (.reg [⟨some ⟨.c,.e⟩,none,.bin
 .eql (.t ⟨.b,.e⟩) (.c (.c (.i .u8 (.ofNat 47)))),[]⟩,⟨some ⟨.b,.l⟩,none,.mv (.t ⟨.c,.e⟩),[]⟩]) (.cond (.t ⟨.b,.l⟩) .skip (.seq (.reg [⟨some ⟨.c,.f⟩,none,.bin .eql (.t ⟨.b,.e⟩) (.c (.c
 (.i .u8 (.ofNat 61)))),[]⟩,⟨some ⟨.b,.l⟩,none,.mv (.t ⟨.c,.f⟩),[]⟩]) (.cond (.t ⟨.b,.l⟩) .skip (.reg [⟨some ⟨.c,.g⟩,none,.bin .eql (.t ⟨.b,.e⟩) (.c (.c (.i .u8 (.ofNat 60)))),[]⟩,⟨some
 ⟨.b,.l⟩,none,.mv (.t ⟨.c,.g⟩),[]⟩]))))))))))))))))))))) (.cond (.t ⟨.b,.l⟩) (.seq (.reg [⟨some ⟨.a,.c⟩,none,.mv (.c (.c (.b false))),[]⟩]) .ret) (.seq (.reg [⟨some ⟨.b,.g⟩,none,.bin .geq
 (.t ⟨.a,.e⟩) (.c (.c (.i .u8 (.ofNat 65)))),[]⟩,⟨some ⟨.b,.h⟩,none,.mv (.t ⟨.b,.g⟩),[]⟩,⟨some ⟨.b,.i⟩,some (⟨.b,.h⟩,true),.mv (.t ⟨.a,.e⟩),[]⟩,⟨some ⟨.b,.j⟩,some (⟨.b,.h⟩,true),
 .bin .leq (.t ⟨.b,.i⟩) (.c (.c (.i .u8 (.ofNat 90)))),[]⟩,⟨some ⟨.b,.k⟩,none,.pk (.t ⟨.b,.h⟩) (.t ⟨.b,.j⟩) (.c (.c (.b false))),[]⟩]) (.cond (.t ⟨.b,.k⟩) (.seq (.reg [⟨some ⟨.a,.c⟩,none,
 .mv (.c (.c (.b false))),[]⟩]) .ret) .skip))))))))) (.reg [⟨some ⟨.c,.h⟩,none,.bin .add (.t ⟨.a,.o⟩) (.c (.c (.i .i64 (.ofNat 1)))),[]⟩,⟨some ⟨.a,.o⟩,none,.mv (.t ⟨.c,.h⟩),[]⟩])))))))
 (.seq (.reg [⟨some ⟨.a,.c⟩,none,.mv (.c (.c (.b true))),[]⟩]) .ret))),[(⟨.a,.c⟩,none)]⟩
theorem ok31 : FnR Tryz.prog 0 31 cf31 := fnC_ok [5,12,16,17,18,21] Tryz.func31 (by kernel_rfl) (by kernel_rfl)
def cf33 : CF := ⟨17,2,.seq (.reg [⟨some ⟨.a,.e⟩,none,.mv (.c (.c (.b false))),[]⟩]) (.seq (.seq (.reg [⟨some ⟨.a,.h⟩,none,.mv (.t ⟨.a,.b⟩),[]⟩,⟨some ⟨.a,.i⟩,none,.len true (.t ⟨.a,.h⟩),[]⟩,⟨some
 ⟨.a,.j⟩,none,.mv (.c (.c (.i .i64 (.ofNat 0)))),[]⟩]) (.blk 0 (.loop (.seq (.reg [⟨some ⟨.a,.k⟩,none,.bin .lss (.t ⟨.a,.j⟩) (.t ⟨.a,.i⟩),[]⟩]) (.seq (.cond (.t ⟨.a,.k⟩) .skip (.exit 0))
 (.seq (.blk 1 (.seq (.reg [⟨some ⟨.a,.l⟩,none,.ia 1 (.t ⟨.a,.h⟩) (.t ⟨.a,.j⟩),[]⟩,⟨some ⟨.a,.m⟩,none,.ld 1 false (.t ⟨.a,.l⟩),[]⟩,⟨some ⟨.a,.g⟩,none,.mv (.t ⟨.a,.m⟩),[]⟩]) (.seq
 (.reg [⟨some ⟨.a,.p⟩,none,.bin .eql (.t ⟨.a,.g⟩) (.t ⟨.a,.a⟩),[]⟩]) (.cond (.t ⟨.a,.p⟩) (.seq (.reg [⟨some ⟨.a,.e⟩,none,.mv (.c (.c (.b true))),[]⟩]) .ret) .skip)))) (.reg [⟨some ⟨.b,.a⟩,
 none,.bin .add (.t ⟨.a,.j⟩) (.c (.c (.i .i64 (.ofNat 1)))),[]⟩,⟨some ⟨.a,.j⟩,none,.mv (.t ⟨.b,.a⟩),[]⟩]))))))) (.seq (.reg [⟨some ⟨.a,.e⟩,none,.mv (.c (.c (.b false))),[]⟩]) .ret)),
 [(⟨.a,.e⟩,none)]⟩
theorem ok33 : FnR Tryz.prog 0 33 cf33 := fnC_ok [13,14] Tryz.func33 (by kernel_rfl) (by kernel_rfl)
def cf34 : CF := ⟨42,2,.seq (.reg [⟨some ⟨.a,.e⟩,none,.mv (.c (.c (.sl none 0 0 0))),[]⟩]) (.seq (.reg [⟨some ⟨.a,.k⟩,none,.call 57 [.t ⟨.a,.a⟩,.t ⟨.a,.b⟩],[]⟩,⟨some ⟨.a,.f⟩,none,.mv (.t ⟨.a,.k⟩),
 []⟩]) (.seq (.seq (.reg [⟨some ⟨.a,.m⟩,none,.bin .eql (.t ⟨.a,.f⟩) (.c (.c (.i .i64 (.negSucc 0)))),[]⟩]) (.cond (.t ⟨.a,.m⟩) (.seq (.reg [⟨some ⟨.a,.e⟩,none,.mv (.t ⟨.a,.a⟩),[]⟩]) .ret)
 .skip)) (.seq (.seq (.reg [⟨some ⟨.a,.p⟩,none,.bin .add (.t ⟨.a,.f⟩) (.c (.c (.i .i64 (.ofNat 1)))),[]⟩,⟨some ⟨.a,.g⟩,none,.mv (.t ⟨.a,.p⟩),[]⟩]) (.blk 0 (.loop (.seq (.seq (.reg [⟨some
 ⟨.b,.c⟩,none,.len true (.t ⟨.a,.a⟩),[]⟩,⟨some ⟨.b,.d⟩,none,.bin .lss (.t ⟨.a,.g⟩) (.t ⟨.b,.c⟩),[]⟩]) (.cond (.t ⟨.b,.d⟩) .skip (.exit 0))) (.seq (.blk 1 (.seq (.reg [⟨some ⟨.b,.i⟩,
 none,.ia 2 (.t ⟨.a,.a⟩) (.t ⟨.a,.g⟩),[]⟩,⟨some ⟨.b,.j⟩,none,.ld 2 true (.t ⟨.b,.i⟩),[]⟩,⟨some ⟨.a,.h⟩,none,.new 79 (.c (.a [.s [],.s []])),[]⟩,⟨none,none,.st 2 (.t ⟨.a,.h⟩) (.t
 ⟨.b,.j⟩),[]⟩]) (.seq (.reg [⟨some ⟨.b,.l⟩,none,.ld 2 true (.t ⟨.a,.h⟩),[]⟩,⟨some ⟨.b,.m⟩,none,.callv (.t ⟨.a,.b⟩) [.t ⟨.b,.l⟩],[]⟩,⟨some ⟨.b,.n⟩,none,.un .not (.t ⟨.b,.m⟩),[]⟩])
 (.cond (.t ⟨.b,.n⟩) (.seq (.reg [⟨some ⟨.c,.a⟩,none,.ld 2 true (.t ⟨.a,.h⟩),[]⟩,⟨some ⟨.c,.b⟩,none,.ia 2 (.t ⟨.a,.a⟩) (.t ⟨.a,.f⟩),[]⟩,⟨none,none,.st 2 (.t ⟨.c,.b⟩) (.t ⟨.c,.a⟩),
 []⟩]) (.reg [⟨some ⟨.c,.d⟩,none,.bin .add (.t ⟨.a,.f⟩) (.c (.c (.i .i64 (.ofNat 1)))),[]⟩,⟨some ⟨.a,.f⟩,none,.mv (.t ⟨.c,.d⟩),[]⟩])) .skip)))) (.reg [⟨some ⟨.b,.f⟩,none,.bin .add (.t
 ⟨.a,.g⟩) (.c (.c (.i .i64 (.ofNat 1)))),[]⟩,⟨some ⟨.a,.g⟩,none,.mv (.t ⟨.b,.f⟩),[]⟩])))))) (.seq (.reg [⟨some ⟨.c,.g⟩,none,.slc 2 (.t ⟨.a,.a⟩) (some (.t ⟨.a,.f⟩)) none none,[]⟩,⟨none,
 none,.clr [.s [],.s []] (.t ⟨.c,.g⟩),[]⟩]) (.seq (.reg [⟨some ⟨.c,.j⟩,none,.slc 2 (.t ⟨.a,.a⟩) none (some (.t ⟨.a,.f⟩)) none,[]⟩,⟨some ⟨.a,.e⟩,none,.mv (.t ⟨.c,.j⟩),[]⟩]) .ret))))),
 [(⟨.a,.e⟩,none)]⟩
theorem ok34 : FnR Tryz.prog 0 34 cf34 := fnC_ok [8,9,11,13,14,16,17,20,22,23,26,30,31,34,36,37,39,40] Tryz.func34 (by kernel_rfl) (by kernel_rfl)
def cf35 : CF := ⟨8,1,.seq (.reg [⟨some ⟨.a,.c⟩,none,.mv (.c (.c (.sl none 0 0 0))),[]⟩]) (.seq (.seq (.reg [⟨some ⟨.a,.e⟩,none,.sq false (.t ⟨.a,.a⟩) (.c (.c (.sl none 0 0 0))),[]⟩]) (.cond (.t ⟨.a,.e⟩)
 (.seq (.reg [⟨some ⟨.a,.c⟩,none,.mv (.c (.c (.sl none 0 0 0))),[]⟩]) .ret) .skip)) (.seq (.reg [⟨some ⟨.a,.f⟩,none,.bsl 79 1 0 [] [],[]⟩,⟨some ⟨.a,.h⟩,none,.app 79 2 false (.t ⟨.a,.f⟩)
 (.t ⟨.a,.a⟩),[]⟩,⟨some ⟨.a,.c⟩,none,.mv (.t ⟨.a,.h⟩),[]⟩]) .ret)),[(⟨.a,.c⟩,none)]⟩
theorem ok35 : FnR Tryz.prog 0 35 cf35 := fnC_ok [3,6] Tryz.func35 (by kernel_rfl) (by kernel_rfl)
def cf37 : CF := ⟨114,2,.seq (.reg [⟨some ⟨.a,.d⟩,none,.new 51 (.t ⟨.a,.b⟩),[]⟩,⟨some ⟨.a,.e⟩,none,.mv (.c (.c (.b false))),[]⟩]) (.seq (.seq (.reg [⟨some ⟨.a,.h⟩,none,.call 58 [.t ⟨.a,.a⟩],[]⟩,
 ⟨some ⟨.a,.f⟩,none,.mv (.t ⟨.a,.h⟩),[]⟩]) (.seq (.reg [⟨some ⟨.a,.j⟩,none,.nc (.t ⟨.a,.f⟩),[]⟩,⟨some ⟨.a,.k⟩,none,.fa 2 (.t ⟨.a,.j⟩),[]⟩,⟨some ⟨.a,.l⟩,none,.ld 1 false (.t ⟨.a,
 .k⟩),[]⟩,⟨some ⟨.a,.m⟩,none,.call 59 [.t ⟨.a,.l⟩],[]⟩]) (.cond (.t ⟨.a,.m⟩) (.seq (.blk 0 (.seq (.reg [⟨some ⟨.a,.o⟩,none,.fa 0 (.t ⟨.a,.d⟩),[]⟩,⟨some ⟨.a,.p⟩,none,.ld 1 false (.t
 ⟨.a,.o⟩),[]⟩,⟨some ⟨.b,.a⟩,none,.bin .eql (.t ⟨.a,.p⟩) (.c (.c (.i .i64 (.ofNat 3)))),[]⟩,⟨some ⟨.a,.n⟩,none,.mv (.t ⟨.b,.a⟩),[]⟩]) (.cond (.t ⟨.a,.n⟩) (.seq (.reg [⟨some ⟨.b,.c⟩,
 none,.fa 2 (.t ⟨.a,.d⟩),[]⟩,⟨some ⟨.b,.d⟩,none,.ld 1 false (.t ⟨.b,.c⟩),[]⟩,⟨some ⟨.b,.e⟩,none,.call 60 [.t ⟨.a,.a⟩,.t ⟨.b,.d⟩],[]⟩]) (.seq (.reg [⟨some ⟨.a,.e⟩,none,.mv (.c (.c
 (.b false))),[]⟩]) .ret)) (.seq (.dreg [⟨some ⟨.b,.g⟩,none,.ld 5 true (.t ⟨.a,.d⟩),[]⟩,⟨some ⟨.b,.h⟩,none,.mv (.t ⟨.a,.f⟩),[]⟩,⟨some ⟨.b,.i⟩,none,.nc (.t ⟨.b,.h⟩),[]⟩,⟨some ⟨.b,
 .j⟩,none,.fa 2 (.t ⟨.b,.i⟩),[]⟩,⟨some ⟨.b,.k⟩,none,.ld 1 false (.t ⟨.b,.j⟩),[]⟩,⟨some ⟨.b,.l⟩,none,.bsl 9 1 1 [.s []] [(0,(1,.t ⟨.b,.k⟩))],[]⟩,⟨some ⟨.b,.m⟩,none,.call 61 [.t
 ⟨.b,.g⟩,.t ⟨.b,.l⟩],[]⟩,⟨some ⟨.b,.f⟩,none,.mv (.t ⟨.b,.m⟩),[]⟩]) (.cond (.t ⟨.b,.f⟩) (.seq (.reg [⟨some ⟨.b,.o⟩,none,.call 62 [.t ⟨.a,.a⟩,.c (.c (.i .i64 (.ofNat 1)))],[]⟩]) (.seq
 (.reg [⟨some ⟨.a,.e⟩,none,.mv (.c (.c (.b false))),[]⟩]) .ret)) (.seq (.reg [⟨some ⟨.c,.a⟩,none,.fa 0 (.t ⟨.a,.d⟩),[]⟩,⟨some ⟨.c,.b⟩,none,.ld 1 false (.t ⟨.c,.a⟩),[]⟩,⟨some ⟨.c,.c⟩,
 none,.bin .eql (.t ⟨.c,.b⟩) (.c (.c (.i .i64 (.ofNat 4)))),[]⟩,⟨some ⟨.c,.d⟩,none,.mv (.t ⟨.c,.c⟩),[]⟩,⟨some ⟨.c,.e⟩,some (⟨.c,.d⟩,false),.fa 0 (.t ⟨.a,.d⟩),[]⟩,⟨some ⟨.c,.f⟩,some
 (⟨.c,.d⟩,false),.ld 1 false (.t ⟨.c,.e⟩),[]⟩,⟨some ⟨.c,.g⟩,some (⟨.c,.d⟩,false),.bin .eql (.t ⟨.c,.f⟩) (.c (.c (.i .i64 (.ofNat 5)))),[]⟩,⟨some ⟨.c,.h⟩,none,.pk (.t ⟨.c,.d⟩) (.c (.c
 (.b true))) (.t ⟨.c,.g⟩),[]⟩,⟨some ⟨.c,.i⟩,none,.mv (.t ⟨.c,.h⟩),[]⟩,⟨some ⟨.c,.j⟩,some (⟨.c,.i⟩,false),.fa 0 (.t ⟨.a,.d⟩),[]⟩,⟨some ⟨.c,.k⟩,some (⟨.c,.i⟩,false),.ld 1 false (.t
 ⟨.c,.j⟩),[]⟩,⟨some ⟨.c,.l⟩,some (⟨.c,.i⟩,false),.bin .eql (.t ⟨.c,.k⟩) (.c (.c (.i .i64 (.ofNat 2)))),[]⟩,⟨some ⟨.c,.m⟩,none,.pk (.t ⟨.c,.i⟩) (.c (.c (.b true))) (.t ⟨.c,.l⟩),[]⟩,
 ⟨some ⟨.b,.p⟩,none,.mv (.t ⟨.c,.m⟩),[]⟩]) (.cond (.t ⟨.b,.p⟩) (.seq (.reg [⟨some ⟨.a,.e⟩,none,.mv (.c (.c (.b false))),[]⟩]) .ret) .skip))))))) (.seq (.reg [⟨some ⟨.c,.o⟩,none,.call 62
 [.t ⟨.a,.a⟩,.c (.c (.i .i64 (.ofNat 1)))],[]⟩]) (.seq (.reg [⟨some ⟨.a,.e⟩,none,.mv (.c (.c (.b true))),[]⟩]) .ret))) .skip))) (.seq (.seq (.reg [⟨some ⟨.d,.a⟩,none,.nc (.t ⟨.a,.a⟩),[]⟩,
 ⟨some ⟨.d,.b⟩,none,.fa 5 (.t ⟨.d,.a⟩),[]⟩,⟨some ⟨.d,.c⟩,none,.ld 1 false (.t ⟨.d,.b⟩),[]⟩]) (.blk 1 (.seq (.reg [⟨some ⟨.d,.e⟩,none,.bin .eql (.t ⟨.d,.c⟩) (.c (.c (.i .i64 (.ofNat
 0)))),[]⟩,⟨some ⟨.d,.d⟩,none,.mv (.t ⟨.d,.e⟩),[]⟩]) (.cond (.t ⟨.d,.d⟩) (.seq (.reg [⟨some ⟨.d,.g⟩,none,.ld 5 true (.t ⟨.a,.d⟩),[]⟩,⟨some ⟨.d,.h⟩,none,.call 63 [.t ⟨.a,.a⟩,.t ⟨.d,
 .g⟩],[]⟩,⟨some ⟨.a,.e⟩,none,.mv (.t ⟨.d,.h⟩),[]⟩]) .ret) (.seq (.reg [⟨some ⟨.d,.j⟩,none,.bin .eql (.t ⟨.d,.c⟩) (.c (.c (.i .i64 (.ofNat 1)))),[]⟩,⟨some ⟨.d,.i⟩,none,.mv (.t ⟨.d,
 .j⟩),[]⟩]) (.cond (.t ⟨.d,.i⟩) (.seq (.reg [⟨some ⟨.d,.l⟩,none,.ld 5 true (.t ⟨.a,.d⟩),[]⟩,⟨some ⟨.d,.m⟩,none,.call 64 [.t ⟨.a,.a⟩,.t ⟨.d,.l⟩],[]⟩,⟨some ⟨.a,.e⟩,none,.mv (.t ⟨.d,
 .m⟩),[]⟩]) .ret) (.seq (.reg [⟨some ⟨.d,.o⟩,none,.bin .eql (.t ⟨.d,.c⟩) (.c (.c (.i .i64 (.ofNat 2)))),[]⟩,⟨some ⟨.d,.n⟩,none,.mv (.t ⟨.d,.o⟩),[]⟩]) (.cond (.t ⟨.d,.n⟩) (.seq (.reg
 [⟨some ⟨.e,.a⟩,none,.ld 5 true (.t ⟨.a,.d⟩),[]⟩,⟨some ⟨.e,.b⟩,none,.call 65 [.t ⟨.a,.a⟩,.t ⟨.e,.a⟩],[]⟩,⟨some ⟨.a,.e⟩,none,.mv (.t ⟨.e,.b⟩),[]⟩]) .ret) (.seq (.reg [⟨some ⟨.e,.d⟩,
 none,.bin .eql (.t ⟨.d,.c⟩) (.c (.c (.i .i64 (.ofNat 3)))),[]⟩,⟨some ⟨.e,.c⟩,none,.mv (.t ⟨.e,.d⟩),[]⟩]) (.cond (.t ⟨.e,.c⟩) (.seq (.reg [⟨some ⟨.e,.f⟩,none,.ld 5 true (.t ⟨.a,.d⟩),
 []⟩,⟨some ⟨.e,.g⟩,none,.call 66 [.t ⟨.a,.a⟩,.t ⟨.e,.f⟩],[]⟩,⟨some ⟨.a,.e⟩,none,.mv (.t ⟨.e,.g⟩),[]⟩]) .ret) (.seq (.reg [⟨some ⟨.e,.i⟩,none,.bin .eql (.t ⟨.d,.c⟩) (.c (.c (.i .i64
 (.ofNat 4)))),[]⟩,⟨some ⟨.e,.h⟩,none,.mv (.t ⟨.e,.i⟩),[]⟩]) (.cond (.t ⟨.e,.h⟩) (.seq (.reg [⟨some ⟨.e,.k⟩,none,.ld 5 true (.t ⟨.a,.d⟩),[]⟩,⟨some ⟨.e,.l⟩,none,.call 67 [.t ⟨.a,.a⟩,
 .t ⟨.e,.k⟩],[]⟩,⟨some ⟨.a,.e⟩,none,.mv (.t ⟨.e,.l⟩),[]⟩]) .ret) (.seq (.reg [⟨some ⟨.e,.n⟩,none,.bin .eql (.t ⟨.d,.c⟩) (.c (.c (.i .i64 (.ofNat 6)))),[]⟩,⟨some ⟨.e,.m⟩,none,.mv (.t
 ⟨.e,.n⟩),[]⟩]) (.cond (.t ⟨.e,.m⟩) (.seq (.reg [⟨some ⟨.e,.p⟩,none,.ld 5 true (.t ⟨.a,.d⟩),[]⟩,⟨some ⟨.f,.a⟩,none,.call 68 [.t ⟨.a,.a⟩,.t ⟨.e,.p⟩],[]⟩,⟨some ⟨.a,.e⟩,none,.mv (.t
 ⟨.f,.a⟩),[]⟩]) .ret) (.seq (.reg [⟨some ⟨.f,.c⟩,none,.bin .eql (.t ⟨.d,.c⟩) (.c (.c (.i .i64 (.ofNat 7)))),[]⟩,⟨some ⟨.f,.b⟩,none,.mv (.t ⟨.f,.c⟩),[]⟩]) (.cond (.t ⟨.f,.b⟩) (.seq (.reg
 [⟨some ⟨.f,.e⟩,none,.ld 5 true (.t ⟨.a,.d⟩),[]⟩,⟨some ⟨.f,.f⟩,none,.call 69 [.t ⟨.a,.a⟩,.t ⟨.f,.e⟩],[]⟩,⟨some ⟨.a,.e⟩,none,.mv (.t ⟨.f,.f⟩),[]⟩]) .ret) (.seq (.reg [⟨some ⟨.f,.h⟩,
 none,.bin .eql (.t ⟨.d,.c⟩) (.c (.c (.i .i64 (.ofNat 8)))),[]⟩,⟨some ⟨.f,.g⟩,none,.mv (.t ⟨.f,.h⟩),[]⟩]) (.cond (.t ⟨.f,.g⟩) (.seq (.reg [⟨some ⟨.f,.j⟩,none,.ld 5 true (.t ⟨.a,.d⟩),
 []⟩,⟨some ⟨.f,.k⟩,none,.call 70 [.t ⟨.a,.a⟩,.t ⟨.f,.j⟩],[]⟩,⟨some ⟨.a,.e⟩,none,.mv (.t ⟨.f,.k⟩),[]⟩]) .ret) (.seq (.reg [⟨some ⟨.f,.m⟩,none,.bin .eql (.t ⟨.d,.c⟩) (.c (.c (.i .i64
 (.ofNat 9)))),[]⟩,⟨some ⟨.f,.l⟩,none,.mv (.t ⟨.f,.m⟩),[]⟩]) (.cond (.t ⟨.f,.l⟩) (.seq (.reg [⟨some ⟨.f,.o⟩,none,.ld 5 true (.t ⟨.a,.d⟩),[]⟩,⟨some ⟨.f,.p⟩,none,.call 71 [.t ⟨.a,.a⟩,
 .t ⟨.f,.o⟩],[]⟩,⟨some ⟨.a,.e⟩,none,.mv (.t ⟨.f,.p⟩),[]⟩]) .ret) (.seq (.reg [⟨some ⟨.g,.b⟩,none,.bin .eql (.t ⟨.d,.c⟩) (.c (.c (.i .i64 (.ofNat 10)))),[]⟩,⟨some ⟨.g,.a⟩,none,.mv (.t
 ⟨.g,.b⟩),[]⟩]) (.cond (.t ⟨.g,.a⟩) (.seq (.reg [⟨some ⟨.g,.d⟩,none,.ld 5 true (.t ⟨.a,.d⟩),[]⟩,⟨some ⟨.g,.e⟩,none,.call 72 [.t ⟨.a,.a⟩,.t ⟨.g,.d⟩],[]⟩,⟨some ⟨.a,.e⟩,none,.mv (.t
 ⟨.g,.e⟩),[]⟩]) .ret) (.seq (.reg [⟨some ⟨.g,.g⟩,none,.bin .eql (.t ⟨.d,.c⟩) (.c (.c (.i .i64 (.ofNat 11)))),[]⟩,⟨some ⟨.g,.f⟩,none,.mv (.t ⟨.g,.g⟩),[]⟩]) (.cond (.t ⟨.g,.f⟩) (.seq (.reg
 [⟨some ⟨.g,.i⟩,none,.ld 5 true (.t ⟨.a,.d⟩),[]⟩,⟨some ⟨.g,.j⟩,none,.call 73 [.t ⟨.a,.a⟩,.t ⟨.g,.i⟩],[]⟩,⟨some ⟨.a,.e⟩,none,.mv (.t ⟨.g,.j⟩),[]⟩]) .ret) (.seq (.reg [⟨some ⟨.g,.l⟩,
 none,.bin .eql (.t ⟨.d,.c⟩) (.c (.c (.i .i64 (.ofNat 12)))),[]⟩,⟨some ⟨.g,.k⟩,none,.mv (.t ⟨.g,.l⟩),[]⟩]) (.cond (.t ⟨.g,.k⟩) (.seq (.reg [⟨some ⟨.g,.n⟩,none,.ld 5 true (.t ⟨.a,.d⟩),
 []⟩,⟨some ⟨.g,.o⟩,none,.call 74 [.t ⟨.a,.a⟩,.t ⟨.g,.n⟩],[]⟩,⟨some ⟨.a,.e⟩,none,.mv (.t ⟨.g,.o⟩),[]⟩]) .ret) .skip)))))))))))))))))))))))))) (.seq (.reg [⟨some ⟨.h,.a⟩,none,.ld 5 true
 (.t ⟨.a,.d⟩),[]⟩,⟨some ⟨.h,.b⟩,none,.call 75 [.t ⟨.a,.a⟩,.t ⟨.h,.a⟩],[]⟩,⟨some ⟨.a,.e⟩,none,.mv (.t ⟨.h,.b⟩),[]⟩]) .ret))),[(⟨.a,.e⟩,none)]⟩
theorem ok37 : FnR Tryz.prog 0 37 cf37 := fnC_ok [6,8,17,29,45,47,53,58,63,68,73,78,83,88,93,98,103,108,111] Tryz.func37 (by kernel_rfl) (by kernel_rfl)
def cf38 : CF := ⟨19,1,.seq (.reg [⟨some ⟨.a,.b⟩,none,.new 28 (.t ⟨.a,.a⟩),[]⟩,⟨some ⟨.a,.c⟩,none,.mv (.c (.c (.i .i64 (.ofNat 0)))),[]⟩]) (.seq (.reg [⟨some ⟨.a,.d⟩,none,.mv (.c (.c (.i .i64 (.ofNat
 1)))),[]⟩]) (.seq (.seq (.reg [⟨some ⟨.a,.g⟩,none,.fa 4 (.t ⟨.a,.b⟩),[]⟩,⟨some ⟨.a,.h⟩,none,.ld 1 false (.t ⟨.a,.g⟩),[]⟩,⟨some ⟨.a,.i⟩,none,.len true (.t ⟨.a,.h⟩),[]⟩,⟨some ⟨.a,
 .j⟩,none,.mv (.c (.c (.i .i64 (.ofNat 0)))),[]⟩]) (.blk 0 (.loop (.seq (.reg [⟨some ⟨.a,.k⟩,none,.bin .lss (.t ⟨.a,.j⟩) (.t ⟨.a,.i⟩),[]⟩]) (.seq (.cond (.t ⟨.a,.k⟩) .skip (.exit 0)) (.seq
 (.blk 1 (.seq (.reg [⟨some ⟨.a,.l⟩,none,.ia 5 (.t ⟨.a,.h⟩) (.t ⟨.a,.j⟩),[]⟩,⟨some ⟨.a,.m⟩,none,.ld 5 true (.t ⟨.a,.l⟩),[]⟩,⟨some ⟨.a,.f⟩,none,.new 28 (.c (.a [.i .i64 (.ofNat 0),.s
 [],.s [],.sl none 0 0 0,.sl none 0 0 0])),[]⟩,⟨none,none,.st 5 (.t ⟨.a,.f⟩) (.t ⟨.a,.m⟩),[]⟩]) (.reg [⟨some ⟨.a,.o⟩,none,.ld 5 true (.t ⟨.a,.f⟩),[]⟩,⟨some ⟨.a,.p⟩,none,.call 38 [.t
 ⟨.a,.o⟩],[]⟩,⟨some ⟨.b,.a⟩,none,.bin .add (.t ⟨.a,.d⟩) (.t ⟨.a,.p⟩),[]⟩,⟨some ⟨.a,.d⟩,none,.mv (.t ⟨.b,.a⟩),[]⟩]))) (.reg [⟨some ⟨.b,.b⟩,none,.bin .add (.t ⟨.a,.j⟩) (.c (.c (.i
 .i64 (.ofNat 1)))),[]⟩,⟨some ⟨.a,.j⟩,none,.mv (.t ⟨.b,.b⟩),[]⟩]))))))) (.seq (.reg [⟨some ⟨.a,.c⟩,none,.mv (.t ⟨.a,.d⟩),[]⟩]) .ret))),[(⟨.a,.c⟩,none)]⟩
theorem ok38 : FnR Tryz.prog 0 38 cf38 := fnC_ok [13,18] Tryz.func38 (by kernel_rfl) (by kernel_rfl)
def cf39 : CF := ⟨20,1,.seq (.reg [⟨some ⟨.a,.b⟩,none,.new 28 (.t ⟨.a,.a⟩),[]⟩,⟨some ⟨.a,.c⟩,none,.mv (.c (.c (.i .i64 (.ofNat 0)))),[]⟩]) (.seq (.reg [⟨some ⟨.a,.d⟩,none,.mv (.c (.c (.i .i64 (.ofNat
 0)))),[]⟩]) (.seq (.seq (.reg [⟨some ⟨.a,.g⟩,none,.fa 4 (.t ⟨.a,.b⟩),[]⟩,⟨some ⟨.a,.h⟩,none,.ld 1 false (.t ⟨.a,.g⟩),[]⟩,⟨some ⟨.a,.i⟩,none,.len true (.t ⟨.a,.h⟩),[]⟩,⟨some ⟨.a,
 .j⟩,none,.mv (.c (.c (.i .i64 (.ofNat 0)))),[]⟩]) (.blk 0 (.loop (.seq (.reg [⟨some ⟨.a,.k⟩,none,.bin .lss (.t ⟨.a,.j⟩) (.t ⟨.a,.i⟩),[]⟩]) (.seq (.cond (.t ⟨.a,.k⟩) .skip (.exit 0)) (.seq
 (.blk 1 (.seq (.reg [⟨some ⟨.a,.l⟩,none,.ia 5 (.t ⟨.a,.h⟩) (.t ⟨.a,.j⟩),[]⟩,⟨some ⟨.a,.m⟩,none,.ld 5 true (.t ⟨.a,.l⟩),[]⟩,⟨some ⟨.a,.f⟩,none,.new 28 (.c (.a [.i .i64 (.ofNat 0),.s
 [],.s [],.sl none 0 0 0,.sl none 0 0 0])),[]⟩,⟨none,none,.st 5 (.t ⟨.a,.f⟩) (.t ⟨.a,.m⟩),[]⟩]) (.reg [⟨some ⟨.a,.o⟩,none,.ld 5 true (.t ⟨.a,.f⟩),[]⟩,⟨some ⟨.a,.p⟩,none,.call 39 [.t
 ⟨.a,.o⟩],[]⟩,⟨some ⟨.b,.a⟩,none,.mx (.t ⟨.a,.d⟩) (.t ⟨.a,.p⟩),[]⟩,⟨some ⟨.a,.d⟩,none,.mv (.t ⟨.b,.a⟩),[]⟩]))) (.reg [⟨some ⟨.b,.b⟩,none,.bin .add (.t ⟨.a,.j⟩) (.c (.c (.i .i64
 (.ofNat 1)))),[]⟩,⟨some ⟨.a,.j⟩,none,.mv (.t ⟨.b,.b⟩),[]⟩]))))))) (.seq (.reg [⟨some ⟨.b,.d⟩,none,.bin .add (.t ⟨.a,.d⟩) (.c (.c (.i .i64 (.ofNat 1)))),[]⟩,⟨some ⟨.a,.c⟩,none,.mv (.t
 ⟨.b,.d⟩),[]⟩]) .ret))),[(⟨.a,.c⟩,none)]⟩
theorem ok39 : FnR Tryz.prog 0 39 cf39 := fnC_ok [13,18] Tryz.func39 (by kernel_rfl) (by kernel_rfl)
def cf40 : CF := ⟨14,1,.seq (.reg [⟨some ⟨.a,.c⟩,none,.mv (.c (.c (.b false))),[]⟩]) (.seq (.seq (.reg [⟨some ⟨.a,.f⟩,none,.mv (.t ⟨.a,.a⟩),[]⟩,⟨some ⟨.a,.g⟩,none,.len true (.t ⟨.a,.f⟩),[]⟩,⟨some
 ⟨.a,.h⟩,none,.mv (.c (.c (.i .i64 (.ofNat 0)))),[]⟩]) (.blk 0 (.loop (.seq (.reg [⟨some ⟨.a,.i⟩,none,.bin .lss (.t ⟨.a,.h⟩) (.t ⟨.a,.g⟩),[]⟩]) (.seq (.cond (.t ⟨.a,.i⟩) .skip (.exit 0))
 (.seq (.blk 1 (.seq (.reg [⟨some ⟨.a,.j⟩,none,.ia 1 (.t ⟨.a,.f⟩) (.t ⟨.a,.h⟩),[]⟩,⟨some ⟨.a,.k⟩,none,.ld 1 false (.t ⟨.a,.j⟩),[]⟩,⟨some ⟨.a,.e⟩,none,.mv (.t ⟨.a,.k⟩),[]⟩]) (.seq
 (.reg [⟨some ⟨.a,.m⟩,none,.bin .neq (.t ⟨.a,.e⟩) (.c (.c (.s []))),[]⟩]) (.cond (.t ⟨.a,.m⟩) (.seq (.reg [⟨some ⟨.a,.c⟩,none,.mv (.c (.c (.b false))),[]⟩]) .ret) .skip)))) (.reg [⟨some ⟨.a,
 .n⟩,none,.bin .add (.t ⟨.a,.h⟩) (.c (.c (.i .i64 (.ofNat 1)))),[]⟩,⟨some ⟨.a,.h⟩,none,.mv (.t ⟨.a,.n⟩),[]⟩]))))))) (.seq (.reg [⟨some ⟨.a,.c⟩,none,.mv (.c (.c (.b true))),[]⟩]) .ret)),
 [(⟨.a,.c⟩,none)]⟩
theorem ok40 : FnR Tryz.prog 0 40 cf40 := fnC_ok [11] Tryz.func40 (by kernel_rfl) (by kernel_rfl)
def cf41 : CF := ⟨26,1,.seq (.reg [⟨some ⟨.a,.b⟩,none,.new 28 (.t ⟨.a,.a⟩),[]⟩,⟨some ⟨.a,.c⟩,none,.mv (.c (.c (.b false))),[]⟩]) (.seq (.seq (.reg [⟨some ⟨.a,.f⟩,none,.fa 4 (.t ⟨.a,.b⟩),[]⟩,⟨some
 ⟨.a,.g⟩,none,.ld 1 false (.t ⟨.a,.f⟩),[]⟩,⟨some ⟨.a,.h⟩,none,.len true (.t ⟨.a,.g⟩),[]⟩,⟨some ⟨.a,.i⟩,none,.mv (.c (.c (.i .i64 (.ofNat 0)))),[]⟩]) (.blk 0 (.loop (.seq (.reg [⟨some
 ⟨.a,.j⟩,none,.bin .lss (.t ⟨.a,.i⟩) (.t ⟨.a,.h⟩),[]⟩]) (.seq (.cond (.t ⟨.a,.j⟩) .skip (.exit 0)) (.seq (.blk 1 (.seq (.reg [⟨some ⟨.a,.k⟩,none,.ia 5 (.t ⟨.a,.g⟩) (.t ⟨.a,.i⟩),[]⟩,⟨some
 ⟨.a,.l⟩,none,.ld 5 true (.t ⟨.a,.k⟩),[]⟩,⟨some ⟨.a,.e⟩,none,.new 28 (.c (.a [.i .i64 (.ofNat 0),.s [],.s [],.sl none 0 0 0,.sl none 0 0 0])),[]⟩,⟨none,none,.st 5 (.t ⟨.a,.e⟩) (.t
 ⟨.a,.l⟩),[]⟩]) (.seq (.reg [⟨some ⟨.a,.m⟩,none,.ld 5 true (.t ⟨.a,.e⟩),[]⟩,⟨some ⟨.a,.n⟩,none,.call 76 [.t ⟨.a,.m⟩],[]⟩,⟨some ⟨.a,.o⟩,none,.un .not (.t ⟨.a,.n⟩),[]⟩,⟨some ⟨.a,
 .p⟩,none,.mv (.t ⟨.a,.o⟩),[]⟩,⟨some ⟨.b,.a⟩,some (⟨.a,.p⟩,false),.fa 0 (.t ⟨.a,.e⟩),[]⟩,⟨some ⟨.b,.b⟩,some (⟨.a,.p⟩,false),.ld 1 false (.t ⟨.b,.a⟩),[]⟩,⟨some ⟨.b,.c⟩,some (⟨.a,
 .p⟩,false),.bin .eql (.t ⟨.b,.b⟩) (.c (.c (.i .i64 (.ofNat 5)))),[]⟩,⟨some ⟨.b,.d⟩,some (⟨.a,.p⟩,false),.mv (.t ⟨.b,.c⟩),[]⟩,⟨some ⟨.b,.e⟩,some (⟨.b,.d⟩,true),.fa 0 (.t ⟨.a,.b⟩),
 []⟩,⟨some ⟨.b,.f⟩,some (⟨.b,.d⟩,true),.ld 1 false (.t ⟨.b,.e⟩),[]⟩,⟨some ⟨.b,.g⟩,some (⟨.b,.d⟩,true),.bin .neq (.t ⟨.b,.f⟩) (.c (.c (.i .i64 (.ofNat 1)))),[]⟩,⟨some ⟨.b,.h⟩,some
 (⟨.a,.p⟩,false),.pk (.t ⟨.b,.d⟩) (.t ⟨.b,.g⟩) (.c (.c (.b false))),[]⟩,⟨some ⟨.b,.i⟩,none,.pk (.t ⟨.a,.p⟩) (.c (.c (.b true))) (.t ⟨.b,.h⟩),[]⟩]) (.cond (.t ⟨.b,.i⟩) (.seq (.reg [⟨some
 ⟨.a,.c⟩,none,.mv (.c (.c (.b false))),[]⟩]) .ret) .skip)))) (.reg [⟨some ⟨.b,.j⟩,none,.bin .add (.t ⟨.a,.i⟩) (.c (.c (.i .i64 (.ofNat 1)))),[]⟩,⟨some ⟨.a,.i⟩,none,.mv (.t ⟨.b,.j⟩),
 []⟩]))))))) (.seq (.reg [⟨some ⟨.a,.c⟩,none,.mv (.c (.c (.b true))),[]⟩]) .ret)),[(⟨.a,.c⟩,none)]⟩
theorem ok41 : FnR Tryz.prog 0 41 cf41 := fnC_ok [] Tryz.func41 (by kernel_rfl) (by kernel_rfl)
def cf45 : CF := ⟨106,2,.seq (.reg [⟨some ⟨.a,.e⟩,none,.mv (.c (.c (.i .i32 (.ofNat 0)))),[]⟩,⟨some ⟨.a,.f⟩,none,.mv (.c (.c (.i .i64 (.ofNat 0)))),[]⟩]) (.seq (.reg [⟨some ⟨.a,.n⟩,none,.sx (.t ⟨.a,
 .a⟩) (.t ⟨.a,.b⟩),[]⟩,⟨some ⟨.a,.o⟩,none,.cv .i64 (.t ⟨.a,.n⟩),[]⟩,⟨some ⟨.a,.g⟩,none,.mv (.t ⟨.a,.o⟩),[]⟩]) (.seq (.reg [⟨some ⟨.a,.h⟩,none,.mv (.c (.c (.i .i64 (.ofNat 0)))),[]⟩,
 ⟨some ⟨.a,.i⟩,none,.mv (.c (.c (.i .i64 (.ofNat 0)))),[]⟩,⟨some ⟨.a,.j⟩,none,.mv (.c (.c (.i .i64 (.ofNat 0)))),[]⟩]) (.seq (.blk 0 (.seq (.reg [⟨some ⟨.b,.b⟩,none,.bin .lss (.t ⟨.a,.g⟩)
 (.c (.c (.i .i64 (.ofNat 128)))),[]⟩,⟨some ⟨.a,.p⟩,none,.mv (.t ⟨.b,.b⟩),[]⟩]) (.cond (.t ⟨.a,.p⟩) (.seq (.reg [⟨some ⟨.b,.d⟩,none,.cv .i32 (.t ⟨.a,.g⟩),[]⟩,⟨some ⟨.a,.e⟩,none,.mv
 (.t ⟨.b,.d⟩),[]⟩,⟨some ⟨.a,.f⟩,none,.mv (.c (.c (.i .i64 (.ofNat 1)))),[]⟩]) .ret) (.seq (.reg [⟨some ⟨.b,.g⟩,none,.bin .geq (.t ⟨.a,.g⟩) (.c (.c (.i .i64 (.ofNat 192)))),[]⟩,⟨some ⟨.b,
 .h⟩,none,.mv (.t ⟨.b,.g⟩),[]⟩,⟨some ⟨.b,.i⟩,some (⟨.b,.h⟩,true),.mv (.t ⟨.a,.g⟩),[]⟩,⟨some ⟨.b,.j⟩,some (⟨.b,.h⟩,true),.bin .lss (.t ⟨.b,.i⟩) (.c (.c (.i .i64 (.ofNat 224)))),[]⟩,
 ⟨some ⟨.b,.k⟩,none,.pk (.t ⟨.b,.h⟩) (.t ⟨.b,.j⟩) (.c (.c (.b false))),[]⟩,⟨some ⟨.b,.e⟩,none,.mv (.t ⟨.b,.k⟩),[]⟩]) (.cond (.t ⟨.b,.e⟩) (.reg [⟨some ⟨.b,.m⟩,none,.bin .sub (.t ⟨.a,
 .g⟩) (.c (.c (.i .i64 (.ofNat 192)))),[]⟩,⟨some ⟨.a,.h⟩,none,.mv (.c (.c (.i .i64 (.ofNat 2)))),[]⟩,⟨some ⟨.a,.i⟩,none,.mv (.t ⟨.b,.m⟩),[]⟩,⟨some ⟨.a,.j⟩,none,.mv (.c (.c (.i .i64
 (.ofNat 128)))),[]⟩]) (.seq (.reg [⟨some ⟨.b,.p⟩,none,.bin .geq (.t ⟨.a,.g⟩) (.c (.c (.i .i64 (.ofNat 224)))),[]⟩,⟨some ⟨.c,.a⟩,none,.mv (.t ⟨.b,.p⟩),[]⟩,⟨some ⟨.c,.b⟩,some (⟨.c,.a⟩,
 true),.mv (.t ⟨.a,.g⟩),[]⟩,⟨some ⟨.c,.c⟩,some (⟨.c,.a⟩,true),.bin .lss (.t ⟨.c,.b⟩) (.c (.c (.i .i64 (.ofNat 240)))),[]⟩,⟨some ⟨.c,.d⟩,none,.pk (.t ⟨.c,.a⟩) (.t ⟨.c,.c⟩) (.c (.c (.b
 false))),[]⟩,⟨some ⟨.b,.n⟩,none,.mv (.t ⟨.c,.d⟩),[]⟩]) (.cond (.t ⟨.b,.n⟩) (.reg [⟨some ⟨.c,.f⟩,none,.bin .sub (.t ⟨.a,.g⟩) (.c (.c (.i .i64 (.ofNat 224)))),[]⟩,⟨some ⟨.a,.h⟩,none,
 .mv (.c (.c (.i .i64 (.ofNat 3)))),[]⟩,⟨some ⟨.a,.i⟩,none,.mv (.t ⟨.c,.f⟩),[]⟩,⟨some ⟨.a,.j⟩,none,.mv (.c (.c (.i .i64 (.ofNat 2048)))),[]⟩]) (.seq (.reg [⟨some ⟨.c,.i⟩,none,.bin .geq
 (.t ⟨.a,.g⟩) (.c (.c (.i .i64 (.ofNat 240)))),[]⟩,⟨some ⟨.c,.j⟩,none,.mv (.t ⟨.c,.i⟩),[]⟩,⟨some ⟨.c,.k⟩,some (⟨.c,.j⟩,true),.mv (.t ⟨.a,.g⟩),[]⟩,⟨some ⟨.c,.l⟩,some (⟨.c,.j⟩,
 true),.bin .lss (.t ⟨.c,.k⟩) (.c (.c (.i .i64 (.ofNat 248)))),[]⟩,⟨some ⟨.c,.m⟩,none,.pk (.t ⟨.c,.j⟩) (.t ⟨.c,.l⟩) (.c (.c (.b false))),[]⟩,⟨some ⟨.c,.g⟩,none,.mv (.t ⟨.c,.m⟩),[]⟩])
 (.cond (.t ⟨.c,.g⟩) (.reg [⟨some ⟨.c,.o⟩,none,.bin .sub (.t ⟨.a,.g⟩) (.c (.c (.i .i64 (.ofNat 240)))),[]⟩,⟨some ⟨.a,.h⟩,none,.mv (.c (.c (.i .i64 (.ofNat 4)))),[]⟩,⟨some ⟨.a,.i⟩,none,
 .mv (.t ⟨.c,.o⟩),[]⟩,⟨some ⟨.a,.j⟩,none,.mv (.c (.c (.i .i64 (.ofNat 65536)))),[]⟩]) .skip))))))))) (.seq (.seq (.reg [⟨some ⟨.a,.k⟩,none,.mv (.c (.c (.i .i64 (.ofNat 1)))),[]⟩]) (.blk 1
 (.loop (.seq (.seq (.reg [⟨some ⟨.d,.b⟩,none,.bin .lss (.t ⟨.a,.k⟩) (.t ⟨.a,.h⟩),[]⟩]) (.cond (.t ⟨.d,.b⟩) .skip (.exit 1))) (.seq (.blk 2 (.seq (.seq (.reg [⟨some ⟨.d,.g⟩,none,.bin .add
 (.t ⟨.a,.b⟩) (.t ⟨.a,.k⟩),[]⟩,⟨some ⟨.d,.i⟩,none,.len false (.t ⟨.a,.a⟩),[]⟩,⟨some ⟨.d,.j⟩,none,.bin .geq (.t ⟨.d,.g⟩) (.t ⟨.d,.i⟩),[]⟩,⟨some ⟨.d,.k⟩,none,.mv (.t ⟨.d,.j⟩),[]⟩,
 ⟨some ⟨.d,.l⟩,some (⟨.d,.k⟩,false),.mv (.t ⟨.a,.a⟩),[]⟩,⟨some ⟨.d,.m⟩,some (⟨.d,.k⟩,false),.mv (.t ⟨.a,.b⟩),[]⟩,⟨some ⟨.d,.n⟩,some (⟨.d,.k⟩,false),.mv (.t ⟨.a,.k⟩),[]⟩,⟨some
 ⟨.d,.o⟩,some (⟨.d,.k⟩,false),.bin .add (.t ⟨.d,.m⟩) (.t ⟨.d,.n⟩),[]⟩,⟨some ⟨.d,.p⟩,some (⟨.d,.k⟩,false),.sx (.t ⟨.d,.l⟩) (.t ⟨.d,.o⟩),[]⟩,⟨some ⟨.e,.a⟩,some (⟨.d,.k⟩,false),
 .bin .lss (.t ⟨.d,.p⟩) (.c (.c (.i .u8 (.ofNat 128)))),[]⟩,⟨some ⟨.e,.b⟩,none,.pk (.t ⟨.d,.k⟩) (.c (.c (.b true))) (.t ⟨.e,.a⟩),[]⟩,⟨some ⟨.e,.c⟩,none,.mv (.t ⟨.e,.b⟩),[]⟩,⟨some ⟨.e,
 .d⟩,some (⟨.e,.c⟩,false),.mv (.t ⟨.a,.a⟩),[]⟩,⟨some ⟨.e,.e⟩,some (⟨.e,.c⟩,false),.mv (.t ⟨.a,.b⟩),[]⟩,⟨some ⟨.e,.f⟩,some (⟨.e,.c⟩,false),.mv (.t ⟨.a,.k⟩),[]⟩,⟨some ⟨.e,.g⟩,
 some (⟨.e,.c⟩,false),.bin .add (.t ⟨.e,.e⟩) (.t ⟨.e,.f⟩),[]⟩,⟨some ⟨.e,.h⟩,some (⟨.e,.c⟩,false),.sx (.t ⟨.e,.d⟩) (.t ⟨.e,.g⟩),[]⟩,⟨some ⟨.e,.i⟩,some (⟨.e,.c⟩,false),.bin .gtr (.t
 ⟨.e,.h⟩) (.c (.c (.i .u8 (.ofNat 191)))),[]⟩,⟨some ⟨.e,.j⟩,none,.pk (.t ⟨.e,.c⟩) (.c (.c (.b true))) (.t ⟨.e,.i⟩),[]⟩]) (.cond (.t ⟨.e,.j⟩) (.seq (.reg [⟨some ⟨.a,.e⟩,none,.mv (.c (.c
 (.i .i32 (.ofNat 0)))),[]⟩,⟨some ⟨.a,.f⟩,none,.mv (.c (.c (.i .i64 (.ofNat 0)))),[]⟩]) .ret) .skip)) (.reg [⟨some ⟨.e,.l⟩,none,.bin .mul (.c (.c (.i .i64 (.ofNat 64)))) (.t ⟨.a,.i⟩),[]⟩,
 ⟨some ⟨.e,.p⟩,none,.bin .add (.t ⟨.a,.b⟩) (.t ⟨.a,.k⟩),[]⟩,⟨some ⟨.f,.a⟩,none,.sx (.t ⟨.a,.a⟩) (.t ⟨.e,.p⟩),[]⟩,⟨some ⟨.f,.b⟩,none,.cv .i64 (.t ⟨.f,.a⟩),[]⟩,⟨some ⟨.f,.c⟩,none,
 .bin .add (.t ⟨.e,.l⟩) (.t ⟨.f,.b⟩),[]⟩,⟨some ⟨.f,.d⟩,none,.bin .sub (.t ⟨.f,.c⟩) (.c (.c (.i .i64 (.ofNat 128)))),[]⟩,⟨some ⟨.a,.i⟩,none,.mv (.t ⟨.f,.d⟩),[]⟩]))) (.reg [⟨some ⟨.d,
 .d⟩,none,.bin .add (.t ⟨.a,.k⟩) (.c (.c (.i .i64 (.ofNat 1)))),[]⟩,⟨some ⟨.a,.k⟩,none,.mv (.t ⟨.d,.d⟩),[]⟩])))))) (.seq (.seq (.reg [⟨some ⟨.f,.f⟩,none,.bin .eql (.t ⟨.a,.h⟩) (.c (.c
 (.i .i64 (.ofNat 0)))),[]⟩,⟨some ⟨.f,.g⟩,none,.mv (.t ⟨.f,.f⟩),[]⟩,⟨some ⟨.f,.h⟩,some (⟨.f,.g⟩,false),.mv (.t ⟨.a,.i⟩),[]⟩,⟨some ⟨.f,.i⟩,some (⟨.f,.g⟩,false),.mv (.t ⟨.a,.j⟩),
 []⟩,⟨some ⟨.f,.j⟩,some (⟨.f,.g⟩,false),.bin .lss (.t ⟨.f,.h⟩) (.t ⟨.f,.i⟩),[]⟩,⟨some ⟨.f,.k⟩,none,.pk (.t ⟨.f,.g⟩) (.c (.c (.b true))) (.t ⟨.f,.j⟩),[]⟩,⟨some ⟨.f,.l⟩,none,.mv (.t
 ⟨.f,.k⟩),[]⟩,⟨some ⟨.f,.m⟩,some (⟨.f,.l⟩,false),.mv (.t ⟨.a,.i⟩),[]⟩,⟨some ⟨.f,.n⟩,some (⟨.f,.l⟩,false),.bin .gtr (.t ⟨.f,.m⟩) (.c (.c (.i .i64 (.ofNat 1114111)))),[]⟩,⟨some ⟨.f,
 .o⟩,none,.pk (.t ⟨.f,.l⟩) (.c (.c (.b true))) (.t ⟨.f,.n⟩),[]⟩,⟨some ⟨.f,.p⟩,none,.mv (.t ⟨.f,.o⟩),[]⟩,⟨some ⟨.g,.a⟩,some (⟨.f,.p⟩,false),.mv (.t ⟨.a,.i⟩),[]⟩,⟨some ⟨.g,.b⟩,some
 (⟨.f,.p⟩,false),.bin .geq (.t ⟨.g,.a⟩) (.c (.c (.i .i64 (.ofNat 55296)))),[]⟩,⟨some ⟨.g,.c⟩,some (⟨.f,.p⟩,false),.mv (.t ⟨.g,.b⟩),[]⟩,⟨some ⟨.g,.d⟩,some (⟨.g,.c⟩,true),.mv (.t ⟨.a,
 .i⟩),[]⟩,⟨some ⟨.g,.e⟩,some (⟨.g,.c⟩,true),.bin .leq (.t ⟨.g,.d⟩) (.c (.c (.i .i64 (.ofNat 57343)))),[]⟩,⟨some ⟨.g,.f⟩,some (⟨.f,.p⟩,false),.pk (.t ⟨.g,.c⟩) (.t ⟨.g,.e⟩) (.c (.c (.b
 false))),[]⟩,⟨some ⟨.g,.g⟩,none,.pk (.t ⟨.f,.p⟩) (.c (.c (.b true))) (.t ⟨.g,.f⟩),[]⟩]) (.cond (.t ⟨.g,.g⟩) (.seq (.reg [⟨some ⟨.a,.e⟩,none,.mv (.c (.c (.i .i32 (.ofNat 0)))),[]⟩,⟨some
 ⟨.a,.f⟩,none,.mv (.c (.c (.i .i64 (.ofNat 0)))),[]⟩]) .ret) .skip)) (.seq (.reg [⟨some ⟨.g,.i⟩,none,.cv .i32 (.t ⟨.a,.i⟩),[]⟩,⟨some ⟨.a,.e⟩,none,.mv (.t ⟨.g,.i⟩),[]⟩,⟨some ⟨.a,.f⟩,
 none,.mv (.t ⟨.a,.h⟩),[]⟩]) .ret)))))),[(⟨.a,.e⟩,none),(⟨.a,.f⟩,none)]⟩
theorem ok45 : FnR Tryz.prog 0 45 cf45 := fnC_ok [11,12,16,18,21,27,30,36,39,45,47,48,50,52,53,55,74,76,77,78,84,103,105] Tryz.func45 (by kernel_rfl) (by kernel_rfl)
def cf46 : CF := ⟨35,1,.seq (.reg [⟨some ⟨.a,.c⟩,none,.mv (.c (.c (.s []))),[]⟩]) (.seq (.reg [⟨some ⟨.a,.g⟩,none,.s2b 5 (.t ⟨.a,.a⟩),[]⟩,⟨some ⟨.a,.d⟩,none,.mv (.t ⟨.a,.g⟩),[]⟩]) (.seq (.seq (.reg
 [⟨some ⟨.a,.e⟩,none,.mv (.c (.c (.i .i64 (.ofNat 0)))),[]⟩]) (.blk 0 (.loop (.seq (.seq (.reg [⟨some ⟨.a,.j⟩,none,.len true (.t ⟨.a,.d⟩),[]⟩,⟨some ⟨.a,.k⟩,none,.bin .lss (.t ⟨.a,.e⟩)
 (.t ⟨.a,.j⟩),[]⟩]) (.cond (.t ⟨.a,.k⟩) .skip (.exit 0))) (.seq (.blk 1 (.seq (.reg [⟨some ⟨.a,.p⟩,none,.ia 1 (.t ⟨.a,.d⟩) (.t ⟨.a,.e⟩),[]⟩,⟨some ⟨.b,.a⟩,none,.ld 1 false (.t ⟨.a,.p⟩),
 []⟩,⟨some ⟨.b,.b⟩,none,.bin .geq (.t ⟨.b,.a⟩) (.c (.c (.i .u8 (.ofNat 65)))),[]⟩,⟨some ⟨.b,.c⟩,none,.mv (.t ⟨.b,.b⟩),[]⟩,⟨some ⟨.b,.d⟩,some (⟨.b,.c⟩,true),.mv (.t ⟨.a,.d⟩),[]⟩,
 ⟨some ⟨.b,.e⟩,some (⟨.b,.c⟩,true),.mv (.t ⟨.a,.e⟩),[]⟩,⟨some ⟨.b,.f⟩,some (⟨.b,.c⟩,true),.ia 1 (.t ⟨.b,.d⟩) (.t ⟨.b,.e⟩),[]⟩,⟨some ⟨.b,.g⟩,some (⟨.b,.c⟩,true),.ld 1 false (.t
 ⟨.b,.f⟩),[]⟩,⟨some ⟨.b,.h⟩,some (⟨.b,.c⟩,true),.bin .leq (.t ⟨.b,.g⟩) (.c (.c (.i .u8 (.ofNat 90)))),[]⟩,⟨some ⟨.b,.i⟩,none,.pk (.t ⟨.b,.c⟩) (.t ⟨.b,.h⟩) (.c (.c (.b false))),[]⟩])
 (.cond (.t ⟨.b,.i⟩) (.reg [⟨some ⟨.b,.n⟩,none,.ia 1 (.t ⟨.a,.d⟩) (.t ⟨.a,.e⟩),[]⟩,⟨some ⟨.b,.o⟩,none,.ld 1 false (.t ⟨.b,.n⟩),[]⟩,⟨some ⟨.b,.p⟩,none,.bin .add (.t ⟨.b,.o⟩) (.c (.c
 (.i .u8 (.ofNat 32)))),[]⟩,⟨some ⟨.c,.a⟩,none,.ia 1 (.t ⟨.a,.d⟩) (.t ⟨.a,.e⟩),[]⟩,⟨none,none,.st 1 (.t ⟨.c,.a⟩) (.t ⟨.b,.p⟩),[]⟩]) .skip))) (.reg [⟨some ⟨.a,.m⟩,none,.bin .add (.t
 ⟨.a,.e⟩) (.c (.c (.i .i64 (.ofNat 1)))),[]⟩,⟨some ⟨.a,.e⟩,none,.mv (.t ⟨.a,.m⟩),[]⟩])))))) (.seq (.reg [⟨some ⟨.c,.c⟩,none,.b2s (.t ⟨.a,.d⟩),[]⟩,⟨some ⟨.a,.c⟩,none,.mv (.t ⟨.c,.c⟩),
 []⟩]) .ret))),[(⟨.a,.c⟩,none)]⟩
theorem ok46 : FnR Tryz.prog 0 46 cf46 := fnC_ok [5,7,8,11,13,14,25,26,27,28,33] Tryz.func46 (by kernel_rfl) (by kernel_rfl)
def cf48 : CF := ⟨40,2,.seq (.reg [⟨some ⟨.a,.e⟩,none,.mv (.c (.c (.s []))),[]⟩]) (.seq (.reg [⟨some ⟨.a,.f⟩,none,.mv (.c (.c (.s []))),[]⟩]) (.seq (.seq (.reg [⟨some ⟨.a,.g⟩,none,.mv (.c (.c (.i .i64
 (.ofNat 0)))),[]⟩]) (.blk 0 (.loop (.seq (.seq (.reg [⟨some ⟨.a,.l⟩,none,.len false (.t ⟨.a,.a⟩),[]⟩,⟨some ⟨.a,.m⟩,none,.bin .lss (.t ⟨.a,.g⟩) (.t ⟨.a,.l⟩),[]⟩]) (.cond (.t ⟨.a,.m⟩)
 .skip (.exit 0))) (.blk 1 (.seq (.seq (.reg [⟨some ⟨.a,.p⟩,none,.sx (.t ⟨.a,.a⟩) (.t ⟨.a,.g⟩),[]⟩,⟨some ⟨.b,.a⟩,none,.bin .eql (.t ⟨.a,.p⟩) (.c (.c (.i .u8 (.ofNat 38)))),[]⟩]) (.cond (.t
 ⟨.b,.a⟩) (.seq (.reg [⟨some ⟨.b,.f⟩,none,.call 80 [.t ⟨.a,.a⟩,.t ⟨.a,.g⟩,.t ⟨.a,.b⟩],[]⟩,⟨some ⟨.b,.g⟩,none,.ext 0 (.t ⟨.b,.f⟩),[]⟩,⟨some ⟨.b,.h⟩,none,.ext 1 (.t ⟨.b,.f⟩),[]⟩,
 ⟨some ⟨.a,.h⟩,none,.mv (.t ⟨.b,.g⟩),[]⟩,⟨some ⟨.a,.i⟩,none,.mv (.t ⟨.b,.h⟩),[]⟩]) (.seq (.reg [⟨some ⟨.b,.k⟩,none,.bin .add (.t ⟨.a,.f⟩) (.t ⟨.a,.h⟩),[]⟩,⟨some ⟨.a,.f⟩,none,.mv
 (.t ⟨.b,.k⟩),[]⟩]) (.seq (.reg [⟨some ⟨.b,.n⟩,none,.bin .add (.t ⟨.a,.g⟩) (.t ⟨.a,.i⟩),[]⟩,⟨some ⟨.a,.g⟩,none,.mv (.t ⟨.b,.n⟩),[]⟩]) (.exit 1)))) .skip)) (.seq (.reg [⟨some ⟨.c,.c⟩,
 none,.bin .add (.t ⟨.a,.g⟩) (.c (.c (.i .i64 (.ofNat 1)))),[]⟩,⟨some ⟨.c,.d⟩,none,.sls (.t ⟨.a,.a⟩) (some (.t ⟨.a,.g⟩)) (some (.t ⟨.c,.c⟩)),[]⟩,⟨some ⟨.c,.e⟩,none,.bin .add (.t ⟨.a,
 .f⟩) (.t ⟨.c,.d⟩),[]⟩,⟨some ⟨.a,.f⟩,none,.mv (.t ⟨.c,.e⟩),[]⟩]) (.reg [⟨some ⟨.c,.g⟩,none,.bin .add (.t ⟨.a,.g⟩) (.c (.c (.i .i64 (.ofNat 1)))),[]⟩,⟨some ⟨.a,.g⟩,none,.mv (.t ⟨.c,
 .g⟩),[]⟩])))))))) (.seq (.reg [⟨some ⟨.a,.e⟩,none,.mv (.t ⟨.a,.f⟩),[]⟩]) .ret))),[(⟨.a,.e⟩,none)]⟩
theorem ok48 : FnR Tryz.prog 0 48 cf48 := fnC_ok [9,10,13,14,17,18,19,20,24,25,27,28,30,31,32,33,37,39] Tryz.func48 (by kernel_rfl) (by kernel_rfl)
def cf49 : CF := ⟨39,2,.seq (.reg [⟨some ⟨.a,.e⟩,none,.new 51 (.c (.a [.i .i64 (.ofNat 0),.s [],.s [],.sl none 0 0 0,.b false])),[]⟩,⟨some ⟨.a,.f⟩,none,.mv (.c (.c (.i .i64 (.ofNat 0)))),[]⟩,⟨some
 ⟨.a,.g⟩,none,.mv (.c (.c (.b false))),[]⟩]) (.seq (.reg [⟨some ⟨.a,.h⟩,none,.mv (.t ⟨.a,.b⟩),[]⟩]) (.seq (.blk 0 (.loop (.seq (.seq (.dreg [⟨some ⟨.a,.j⟩,none,.mv (.t ⟨.a,.h⟩),[]⟩,
 ⟨some ⟨.a,.k⟩,none,.mv (.t ⟨.a,.a⟩),[]⟩,⟨some ⟨.a,.l⟩,none,.len false (.t ⟨.a,.k⟩),[]⟩,⟨some ⟨.a,.m⟩,none,.bin .lss (.t ⟨.a,.j⟩) (.t ⟨.a,.l⟩),[]⟩,⟨some ⟨.a,.n⟩,none,.mv (.t ⟨.a,
 .m⟩),[]⟩,⟨some ⟨.a,.o⟩,some (⟨.a,.n⟩,true),.mv (.t ⟨.a,.a⟩),[]⟩,⟨some ⟨.a,.p⟩,some (⟨.a,.n⟩,true),.mv (.t ⟨.a,.h⟩),[]⟩,⟨some ⟨.b,.a⟩,some (⟨.a,.n⟩,true),.sx (.t ⟨.a,.o⟩) (.t
 ⟨.a,.p⟩),[]⟩,⟨some ⟨.b,.b⟩,some (⟨.a,.n⟩,true),.bin .neq (.t ⟨.b,.a⟩) (.c (.c (.i .u8 (.ofNat 60)))),[]⟩,⟨some ⟨.b,.c⟩,none,.pk (.t ⟨.a,.n⟩) (.t ⟨.b,.b⟩) (.c (.c (.b false))),[]⟩,
 ⟨some ⟨.b,.d⟩,none,.mv (.t ⟨.b,.c⟩),[]⟩,⟨some ⟨.b,.e⟩,some (⟨.b,.d⟩,true),.mv (.t ⟨.a,.a⟩),[]⟩,⟨some ⟨.b,.f⟩,some (⟨.b,.d⟩,true),.mv (.t ⟨.a,.h⟩),[]⟩,⟨some ⟨.b,.g⟩,some (⟨.b,
 .d⟩,true),.sx (.t ⟨.b,.e⟩) (.t ⟨.b,.f⟩),[]⟩,⟨some ⟨.b,.i⟩,some (⟨.b,.d⟩,true),.mv (.t ⟨.a,.a⟩),[]⟩,⟨some ⟨.b,.j⟩,some (⟨.b,.d⟩,true),.mv (.t ⟨.a,.b⟩),[]⟩,⟨some ⟨.b,.k⟩,some
 (⟨.b,.d⟩,true),.sx (.t ⟨.b,.i⟩) (.t ⟨.b,.j⟩),[]⟩,⟨some ⟨.b,.h⟩,some (⟨.b,.d⟩,true),.call 79 [.t ⟨.b,.g⟩],[]⟩,⟨some ⟨.b,.l⟩,some (⟨.b,.d⟩,true),.call 79 [.t ⟨.b,.k⟩],[]⟩,⟨some
 ⟨.b,.m⟩,some (⟨.b,.d⟩,true),.bq false (.t ⟨.b,.h⟩) (.t ⟨.b,.l⟩),[]⟩,⟨some ⟨.b,.n⟩,none,.pk (.t ⟨.b,.d⟩) (.t ⟨.b,.m⟩) (.c (.c (.b false))),[]⟩]) (.cond (.t ⟨.b,.n⟩) .skip (.exit 0)))
 (.blk 1 (.reg [⟨some ⟨.b,.p⟩,none,.bin .add (.t ⟨.a,.h⟩) (.c (.c (.i .i64 (.ofNat 1)))),[]⟩,⟨some ⟨.a,.h⟩,none,.mv (.t ⟨.b,.p⟩),[]⟩]))))) (.seq (.reg [⟨some ⟨.c,.d⟩,none,.sls (.t ⟨.a,
 .a⟩) (some (.t ⟨.a,.b⟩)) (some (.t ⟨.a,.h⟩)),[]⟩,⟨some ⟨.c,.e⟩,none,.call 48 [.t ⟨.c,.d⟩,.c (.c (.b false))],[]⟩,⟨some ⟨.c,.f⟩,none,.bld [.i .i64 (.ofNat 0),.s [],.s [],.sl none 0 0
 0,.b false] [(0,(1,.c (.c (.i .i64 (.ofNat 3))))),(2,(1,.t ⟨.c,.e⟩))],[]⟩,⟨none,none,.st 5 (.t ⟨.a,.e⟩) (.t ⟨.c,.f⟩),[]⟩,⟨some ⟨.a,.f⟩,none,.mv (.t ⟨.a,.h⟩),[]⟩,⟨some ⟨.a,.g⟩,
 none,.mv (.c (.c (.b true))),[]⟩]) .ret))),[(⟨.a,.e⟩,some (5,true)),(⟨.a,.f⟩,none),(⟨.a,.g⟩,none)]⟩
theorem ok49 : FnR Tryz.prog 0 49 cf49 := fnC_ok [8,30,32,33,34,38] Tryz.func49 (by kernel_rfl) (by kernel_rfl)
def cf50 : CF := ⟨15,2,.seq (.reg [⟨some ⟨.a,.e⟩,none,.mv (.c (.c (.b false))),[]⟩]) (.seq (.reg [⟨some ⟨.a,.h⟩,none,.len false (.t ⟨.a,.a⟩),[]⟩,⟨some ⟨.a,.i⟩,none,.bin .lss (.t ⟨.a,.b⟩) (.t ⟨.a,
 .h⟩),[]⟩,⟨some ⟨.a,.j⟩,none,.mv (.t ⟨.a,.i⟩),[]⟩,⟨some ⟨.a,.k⟩,some (⟨.a,.j⟩,true),.mv (.t ⟨.a,.a⟩),[]⟩,⟨some ⟨.a,.l⟩,some (⟨.a,.j⟩,true),.mv (.t ⟨.a,.b⟩),[]⟩,⟨some ⟨.a,.m⟩,
 some (⟨.a,.j⟩,true),.sx (.t ⟨.a,.k⟩) (.t ⟨.a,.l⟩),[]⟩,⟨some ⟨.a,.n⟩,some (⟨.a,.j⟩,true),.call 81 [.t ⟨.a,.m⟩],[]⟩,⟨some ⟨.a,.o⟩,none,.pk (.t ⟨.a,.j⟩) (.t ⟨.a,.n⟩) (.c (.c (.b
 false))),[]⟩,⟨some ⟨.a,.e⟩,none,.mv (.t ⟨.a,.o⟩),[]⟩]) .ret),[(⟨.a,.e⟩,none)]⟩
theorem ok50 : FnR Tryz.prog 0 50 cf50 := fnC_ok [5,6] Tryz.func50 (by kernel_rfl) (by kernel_rfl)
end
end Ev
end
end Go.Proofs.YtenokfdkckhhiaaGreatDoor
