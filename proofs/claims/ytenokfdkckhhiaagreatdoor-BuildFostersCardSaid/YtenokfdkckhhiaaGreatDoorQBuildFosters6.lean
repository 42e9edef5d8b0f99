/-
  BuildFosters. From what a row lists as laid to what the runs ask.
-/
import Derived.Test.YtenokfdkckhhiaaGreatDoorQBuildFosters5
import Derived.Test.YtenokfdkckhhiaaGreatDoorQBuildFosters3
import Derived.Test.YtenokfdkckhhiaaGreatDoorQBuildFostersGref05
import Derived.Test.YtenokfdkckhhiaaGreatDoorQBuildFostersGlaw14BuildFosters
import Derived.Test.YtenokfdkckhhiaaGreatDoorQBuildFosters2
import Derived.Test.YtenokfdkckhhiaaGreatDoorRows
import Derived.MakeChecks
import Derived.Lib.LaidTab
import Derived.LaidSub
namespace Go.Proofs.YtenokfdkckhhiaaGreatDoor
section
open Go.RowKit
theorem refSizeQ : ∀ t : T,t.bulk ≤ 1099511627776 → ∀ {w : World} {sa sk : Sl},RdQ w t sa sk →
  Calls Tryz.prog 17 #[tv t sa sk] w (Ret fun v w' => Ext w w' ∧ v = .int .i64 (t.size : Int)) := T.ind' fun t ih hb w sa sk h => by
 refine ref05_Size.ok _ _ _ _ _ ?_
 unfold ref05_Size.vc
 have hn := h.nkids
 have hl := T.kids_len t
 intro w1 B1 _ hE1
 refine ⟨fun n i w2 => ∃ k : Nat,i = (k : Int) ∧ k ≤ t.kids.length ∧ n = ((1 + ((t.kids.take k).map T.size).sum : Nat) : Int) ∧ Ext w w2,fun _ i _ => t.kids.length - i.toNat,⟨0,rfl,Nat.zero_le _,by simp,hE1⟩,?_⟩
 rintro _ _ w2 ⟨k,rfl,hk,rfl,hE⟩
 refine ⟨fun hi => ?_,fun hi => ⟨hE,?_⟩⟩
 ·have hk' : k < t.kids.length := by omega
  obtain ⟨p,sa',sk',hp,hc,hr⟩ := (h.ext hE).kid hk'
  rw [Int.toNat_natCast]
  have hm := getD_mem (d := T.nul) hk'
  have hs := sum_take T.size hk'
  have hsl := sum_take_le T.size t.kids (k + 1)
  have ht := T.size_eq t
  have htb := T.size_bulk t
  refine ⟨⟨by omega,hi⟩,p,hp,_,_,_,sa',sk',hc,CallK.exact (ih _ hm (by have := T.kid_bulk hm; omega) hr) fun w4 hE4 => ⟨_,rfl,⟨by omega,by omega⟩,⟨by omega,by omega⟩,⟨k + 1,by omega,by omega,by omega,hE.trans hE4⟩,by dsimp only; omega⟩⟩
 ·have hkl : k = t.kids.length := by omega
  subst hkl
  rw [List.take_of_length_le (Nat.le_refl _),T.size_eq t]
namespace Ev
set_option autoImplicit false
set_option maxRecDepth 100000
open Go.RowKit
noncomputable section
section
def tbS : Str := [116,97,98,108,101]
def foN : Nat → List Str
 |0 => [tbS]
 |1 => [tbS,[116,98,111,100,121]]
 |2 => [tbS,[116,114]]
 |_ => [tbS,[116,98,111,100,121],[116,114]]
def foQ (k : Nat) (a : Str) : List Pc := (foN k).map .s ++ [.t a,.s [116,100],.t [113],.e tbS]
theorem fo_cnt : AllL (fun k => AllL (fun x => retV (runT ftb 20 [.a x] H00) = some (.c (.b true))) (foP k)) [0,1,2,3] :=
 ⟨⟨by show _ = _; kernel_rfl,by show _ = _; kernel_rfl,by show _ = _; kernel_rfl,by show _ = _; kernel_rfl,by show _ = _; kernel_rfl,trivial⟩,⟨by show _ = _; kernel_rfl,by show _ = _; kernel_rfl,by show _ = _; kernel_rfl,by show _ = _; kernel_rfl,by show _ = _; kernel_rfl,by show _ = _; kernel_rfl,trivial⟩,
  ⟨by show _ = _; kernel_rfl,by show _ = _; kernel_rfl,by show _ = _; kernel_rfl,by show _ = _; kernel_rfl,by show _ = _; kernel_rfl,by show _ = _; kernel_rfl,trivial⟩,⟨by show _ = _; kernel_rfl,by show _ = _; kernel_rfl,by show _ = _; kernel_rfl,by show _ = _; kernel_rfl,by show _ = _; kernel_rfl,by show _ = _; kernel_rfl,by show _ = _; kernel_rfl,trivial⟩,trivial⟩
theorem fo_nm : AllL (fun x : Str => retV (runT ftb 83 [.c (.s (ns x))] H00) = some (.c (.s (ns x))) ∧ retV (runT ftb 30 [.c (.s (ns x))] H00) = some (.c (.i .i64 0))) [tbS,[116,98,111,100,121],[116,114],[116,100]] :=
 ⟨⟨by kernel_rfl,by kernel_rfl⟩,⟨by kernel_rfl,by kernel_rfl⟩,⟨by kernel_rfl,by kernel_rfl⟩,⟨by kernel_rfl,by kernel_rfl⟩,trivial⟩
theorem fo_ok : ∀ x ∈ [tbS,[116,98,111,100,121],[116,114],[116,100]],(∀ c ∈ x,goodB c = true) ∧ ∃ r,x = 116 :: r := by
 intro x hx
 simp only [List.mem_cons,List.not_mem_nil,or_false] at hx
 rcases hx with rfl | rfl | rfl | rfl <;> exact ⟨by decide,_,rfl⟩
theorem fo_s {x : Str} (hx : x ∈ [tbS,[116,98,111,100,121],[116,114],[116,100]]) : PcG (.s x) ∧ PcG (.e x) := by
 obtain ⟨h1,r,h2⟩ := fo_ok x hx
 obtain ⟨g1,g2⟩ := fo_nm.mem x hx
 exact ⟨⟨⟨fun c hc => h1 c (by simpa [Pc.name,Pc.text] using hc),fun nm h => (by rcases h with h | h <;> cases h; exact ⟨116,_,h2,by decide⟩),fun y h => (by cases h)⟩,fun _ => g1,fun _ => g2⟩,
  ⟨⟨fun c hc => h1 c (by simpa [Pc.name,Pc.text] using hc),fun nm h => (by rcases h with h | h <;> cases h; exact ⟨116,_,h2,by decide⟩),fun y h => (by cases h)⟩,fun _ => g1,fun h => absurd h (by show ¬ (2 : Int) = 1; decide)⟩⟩
theorem fo_t {a : Str} (h0 : a ≠ []) (ha : ∀ c ∈ a,goodB c = true) : PcG (.t a) :=
 ⟨⟨fun c hc => ha c (by simpa [Pc.name,Pc.text] using hc),fun nm h => (by rcases h with h | h <;> cases h),fun y h => (by injection h with h; subst h; exact h0)⟩,fun h => absurd rfl (h _),fun h => absurd h (by show ¬ (3 : Int) = 1; decide)⟩
theorem foN_mem {k : Nat} {x : Str} (h : x ∈ foN k) : x ∈ [tbS,[116,98,111,100,121],[116,114],[116,100]] := by
 unfold foN at h
 split at h <;> simp only [List.mem_cons,List.not_mem_nil,or_false] at h ⊢
 ·exact .inl h
 ·rcases h with h | h <;> simp [h]
 ·rcases h with h | h <;> simp [h]
 ·rcases h with h | h | h <;> simp [h]
section
variable [Tx]
theorem fo_tk {k : Nat} {a : Str} (ha : Tx.t 0 = a) : All2 TkV (foP k) (foQ k a) := by
 have hs : ∀ nm : Str,TkV (foT (ns nm)) (.s nm) := fun nm E => tkA_v E (.s nm)
 have ht : TkV (foX (.tx 0 [])) (.t a) := fun E => ⟨tkc (.t a),rfl,.cons rfl (.cons (sv_str E []) (.cons ⟨by rw [ha]; rfl,by simp⟩ (.cons ⟨rfl,rfl,rfl⟩ (.cons rfl .nil))))⟩
 have hr : All2 TkV [foX (.tx 0 []),foT [116,100],foX (.s [113]),foE [116,97,98,108,101]] [.t a,.s [116,100],.t [113],.e tbS] := .cons ht (.cons (hs [116,100]) (.cons (fun E => tkA_v E (.t [113])) (.cons (fun E => tkA_v E (.e tbS)) .nil)))
 unfold foP foQ
 refine All2.append ?_ hr
 match k with
 |0 => exact .cons (hs tbS) .nil
 |1 => exact .cons (hs tbS) (.cons (hs [116,98,111,100,121]) .nil)
 |2 => exact .cons (hs tbS) (.cons (hs [116,114]) .nil)
 |_ + 3 => exact .cons (hs tbS) (.cons (hs [116,98,111,100,121]) (.cons (hs [116,114]) .nil))
theorem fo_fin {k : Nat} (hk : k < 4) : finP (foP k) = some (pageT [] [txT (Tx.t 0),foB]) := by
 match k,hk with
 |0,_ => exact fo0
 |1,_ => exact fo1
 |2,_ => exact fo2
 |3,_ => exact fo3
theorem foRuns {k : Nat} (hk : k < 4) {a : Str} (ha : Tx.t 0 = a) (h0 : a ≠ []) (hg : ∀ c ∈ a,goodB c = true) (hl : a.length ≤ 30) : Runs (foQ k a) (pageT [] [txT a,foB]) := by
 have hlen : ∀ j,(srcs ((foN j).map .s)).length ≤ 20 := fun j => by
  unfold foN
  split <;> decide
 have hm : k ∈ [0,1,2,3] := by simp; omega
 have hsep : ∀ l : List Str,Sep (l.map .s ++ [.t a,.s [116,100],.t [113],.e tbS]) := fun l => by
  induction l with
  |nil => exact ⟨fun y _ => .inr ⟨.s [116,100],_,rfl,fun y h => by cases h⟩,fun y h => (by cases h),fun y _ => .inr ⟨.e tbS,_,rfl,fun y h => by cases h⟩,fun y h => (by cases h),trivial⟩
  |cons x l ih => exact ⟨fun y h => (by cases h),ih⟩
 refine ⟨⟨fun p hp => ?_,hsep _,?_⟩,?_,?_,?_⟩
 ·unfold foQ at hp
  rcases List.mem_append.1 hp with hp | hp
  ·obtain ⟨x,hx,rfl⟩ := List.mem_map.1 hp
   exact (fo_s (foN_mem hx)).1
  ·simp only [List.mem_cons,List.not_mem_nil,or_false] at hp
   rcases hp with rfl | rfl | rfl | rfl
   ·exact fo_t h0 hg
   ·exact (fo_s (by simp)).1
   ·exact fo_t (by simp) (by decide)
   ·exact (fo_s (by simp [tbS])).2
 ·have := hlen k
  unfold foQ
  rw [srcs_app,List.length_append]
  have er : srcs [.t a,.s [116,100],.t [113],.e tbS] = a ++ ([60,116,100,62,113,60,47,116,97,98,108,101,62] : Str) := by simp [srcs,Pc.src,tbS]
  rw [er,List.length_append]
  simp only [List.length_cons,List.length_nil]
  omega
 ·obtain ⟨S,S2,h1,h2,h3,h4⟩ := finP_ok (fo_tk ha) (fun x hx => (fo_cnt.mem k hm).mem x hx) (fo_fin hk)
  exact ⟨S,S2,h1,h2,h3,by rw [h4,ha]⟩
 ·refine page_check (fun u hu => ?_) ?_ ?_
  ·simp only [List.mem_cons,List.not_mem_nil,or_false] at hu
   rcases hu with rfl | rfl
   ·exact ⟨txT_ok h0 (by omega),by show (3 : Int) ≠ 5; decide⟩
   ·have h1 : ∀ {nm : Str} {u : T},nameOk nm = true → nodeOk u = true ∧ u.kind ≠ 5 → nodeOk (elT nm [u]) = true ∧ (elT nm [u]).kind ≠ 5 := fun hn hu => ⟨elT_ok hn (fun v hv => by rw [List.mem_singleton.1 hv]; exact hu),by show (2 : Int) ≠ 5; decide⟩
    exact h1 (by decide) (h1 (by decide) (h1 (by decide) (h1 (by decide) ⟨txT_ok (by simp) (by simp),by show (3 : Int) ≠ 5; decide⟩)))
  ·simp [foB,elT_size,txT_size]
  ·simp [foB,elT_depth,txT_depth]
 ·refine page_bulk ?_
  simp [foB,elT_bulk,txT_bulk]; omega
end
end
theorem foB_size : foB.size = 5 := by simp [foB,elT_size,txT_size]
theorem low_good {c : UInt8} (h1 : 97 ≤ c.toNat) (h2 : c.toNat ≤ 122) : goodB c = true := by
 unfold goodB
 simp only [Bool.and_eq_true,decide_eq_true_eq]
 omega
abbrev tx0 : Tx := ⟨fun _ => [97],fun _ => ⟨97,[],rfl,by decide,by decide,by decide,by decide⟩,fun _ _ _ _ => False,fun h _ _ => h.elim⟩
theorem buildFostersLaw {w : World} (hw : WP w) (a : Str) (z : Int) : Calls Tryz.prog 5 #[.string (Bs a),.int .i64 z] w (Ret fun v w' => Ext w w' ∧ v = .bool true) := by
 letI := tx0
 refine law14_BuildFosters.ok _ _ ?_
 unfold law14_BuildFosters.vc
 have awk : ∀ {w' : World},Ext w w' → Calls Tryz.prog 10 #[] w' (Ret fun v w'' => Ext w' w'' ∧ v = .bool true) := fun hE => awakeLaw (WP.ext hw hE)
 refine ⟨fun _ => CallK.exact (awk (Chg.refl _ _)) fun w1 hE1 => ⟨true,rfl,hE1,rfl⟩,fun hc => ?_⟩
 obtain ⟨hne,hl⟩ := hc
 refine ⟨fun i w1 => ∃ k : Nat,i = (k : Int) ∧ k ≤ a.length ∧ (∀ c ∈ a.take k,97 ≤ c.toNat ∧ c.toNat ≤ 122) ∧ Ext w w1,fun i _ => a.length - i.toNat,⟨0,rfl,Nat.zero_le _,by simp,Chg.refl _ _⟩,?_⟩
 rintro _ w1 ⟨k,rfl,hk,hlow,hE1⟩
 rw [Int.toNat_natCast]
 refine ⟨fun hlt => ?_,fun hge => ?_⟩
 ·have hk' : k < a.length := by omega
  have hc : a.getD k 0 = a[k] := by rw [List.getD_eq_getElem?_getD,List.getElem?_eq_getElem hk']; rfl
  refine ⟨⟨by omega,hlt⟩,fun _ => ⟨by omega,hlt⟩,fun _ => CallK.exact (awk hE1) fun w2 hE2 => ⟨true,rfl,hE1.trans hE2,rfl⟩,fun h => ⟨⟨by omega,by omega⟩,⟨k + 1,by omega,by omega,fun c hcm => ?_,hE1⟩,by dsimp only; omega⟩⟩
  rw [List.take_succ_eq_append_getElem hk'] at hcm
  rcases List.mem_append.1 hcm with hcm | hcm
  ·exact hlow c hcm
  ·rw [List.mem_singleton.1 hcm,← hc]; omega
 ·have hkl : k = a.length := by omega
  subst hkl
  rw [List.take_length] at hlow
  have hgood : ∀ c ∈ a,goodB c = true := fun c hc => low_good (hlow c hc).1 (hlow c hc).2
  letI T : Tx := ⟨fun _ => a,fun _ => by
   cases a with
   |nil => exact absurd rfl hne
   |cons c r =>
    have := hlow c (List.mem_cons_self ..)
    exact ⟨c,r,rfl,fun e => (by rw [e] at this; revert this; decide),fun e => (by rw [e] at this; revert this; decide),fun e => (by rw [e] at this; revert this; decide),fun e => (by rw [e] at this; revert this; decide)⟩,fun _ _ _ _ => False,fun h _ _ => h.elim⟩
  have h1 := Int.emod_nonneg z (show (4 : Int) ≠ 0 by decide)
  have h2 := Int.emod_lt_of_pos z (show (0 : Int) < 4 by decide)
  refine CallK.exact (place z 4 (by decide) (by decide)) fun w2 hE2 => ?_
  obtain ⟨K,hK⟩ : ∃ K : Nat,z.emod 4 = (K : Int) := ⟨(z.emod 4).toNat,(Int.toNat_of_nonneg h1).symm⟩
  have hK4 : K < 4 := by
   have : z.emod 4 < 4 := h2
   omega
  refine ⟨_,rfl,?_⟩
  rw [hK,Int.toNat_natCast]
  have hR := foRuns hK4 (a := a) rfl hne hgood (by omega)
  have e0 : (([([60,116,97,98,108,101,62] : Str),([60,116,97,98,108,101,62,60,116,98,111,100,121,62] : Str),([60,116,97,98,108,101,62,60,116,114,62] : Str),([60,116,97,98,108,101,62,60,116,98,111,100,121,62,60,116,114,62] : Str)] : List Str).getD K [] ++ a) ++ ([60,116,100,62,113,60,47,116,97,98,108,101,62] : Str) = srcs (foQ K a) := by
   unfold foQ
   rw [srcs_app]
   have er : srcs [.t a,.s [116,100],.t [113],.e tbS] = a ++ ([60,116,100,62,113,60,47,116,97,98,108,101,62] : Str) := by simp [srcs,Pc.src,tbS]
   rw [er,List.append_assoc]
   congr 1
   match K,hK4 with
   |0,_ => rfl
   |1,_ => rfl
   |2,_ => rfl
   |3,_ => rfl
  have hlen := hR.src.len
  rw [← e0] at hlen
  refine ⟨⟨by omega,by omega⟩,?_,?_,?_⟩
  ·simp only [List.length_append] at hlen; omega
  ·simp only [List.length_append] at hlen ⊢; omega
  rw [e0]
  have hE12 := hE1.trans hE2
  refine CallK.ext (allG (WP.ext hw hE12) hR.src) ?_
  rintro _ w3 hE3 ⟨l,rfl,hlr⟩
  refine ⟨l,rfl,?_⟩
  have hE13 := hE12.trans hE3
  refine CallK.ext (buildS (WP.ext hw hE13) hR hlr) ?_
  rintro _ w4 hE4 ⟨sk,rfl,hq⟩
  have hE : Ext w w4 := hE13.trans hE4
  refine ⟨_,_,_,_,_,_,rfl,?_⟩
  have n0 : sk.n = 1 := hq.nkids
  obtain ⟨p,sa1,sk1,hp,hc,hq1⟩ := hq.kid (i := 0) (show 0 < 1 by decide)
  have n1 : sk1.n = 2 := hq1.nkids
  obtain ⟨p1,sa2,sk2,hp1,hc1,hq2⟩ := hq1.kid (i := 1) (show 1 < 2 by decide)
  have n2 : sk2.n = 2 := hq2.nkids
  obtain ⟨p2,sa3,sk3,hp2,hc2,_⟩ := hq2.kid (i := 0) (show 0 < 2 by decide)
  obtain ⟨p2',sa4,sk4,hp2',hc3,hq4⟩ := hq2.kid (i := 1) (show 1 < 2 by decide)
  rw [hp2] at hp2'; injection hp2' with hp2'; subst hp2'
  refine ⟨p,fun _ => ⟨⟨by omega,by omega⟩,hp⟩,fun w5 B5 hN5 hE5 => ?_⟩
  have c1 : w5.cell? ((p.add (0 * 5)).add 4) = some sk1.v := Ext.cell hE5 (hc 4 _ rfl)
  have c2 : w5.cell? ((p1.add (1 * 5)).add 4) = some sk2.v := Ext.cell hE5 (hc1 4 _ rfl)
  refine ⟨sk1,fun _ => c1,fun hx => ?_,fun _ => ⟨⟨by omega,by omega⟩,p,hp,sk1,c1,⟨by omega,by omega⟩,p1,hp1,sk2,c2,p2,fun _ => ⟨⟨by omega,by omega⟩,hp2⟩,3,fun _ => Ext.cell hE5 (hc2 0 _ rfl),p2,fun _ => ⟨⟨by omega,by omega⟩,hp2⟩,a,fun _ => Ext.cell hE5 (hc2 2 _ rfl),p2,fun _ => ⟨⟨by omega,by omega⟩,hp2⟩,tbS,fun _ => Ext.cell hE5 (hc3 1 _ rfl),p2,fun _ => ⟨⟨by omega,by omega⟩,hp2⟩,2,tbS,[],sa4,sk4,fun _ => hc3.chgE hE5,5,fun _ => ?_,fun w6 hE6 => ⟨true,fun _ => awk ((hE.trans hE5).trans hE6),fun w7 hE7 => ⟨((hE.trans hE5).trans hE6).trans hE7,?_⟩⟩⟩⟩
  ·rcases hx with (hx | hx) | hx
   ·exact absurd rfl hx
   ·omega
   ·omega
  ·have := refSizeQ foB (by simp [foB,elT_bulk,txT_bulk]) (hq4.ext hE5)
   rw [foB_size] at this
   exact this
  ·simp [n2,tbS]
end
end Ev
end
section
open Go.RowKit
theorem wp_of_laid {W : World} (h : laidMetH Tryz.prog Rows.buildVoidsRow.laid W) : Ev.WP W := by
 rw [MakeChecks.laidMetH_plain _ _ _ (by kernel_rfl)] at h
 have e : (Rows.laid_strings_asciiSpace : DataW Unit) = Lib.tabData .u8 Lib.asciiSpaceTab := by kernel_rfl
 have h2 := h.filter fun x => x.1 == "strings.asciiSpace"
 have h3 : laidMet Tryz.prog [("strings.asciiSpace",Rows.laid_strings_asciiSpace)] W := h2
 rw [e] at h3
 exact Lib.tabIs_of_head (rest := []) (g := 0) (t := 160) (e := 5) (n := 256) (by kernel_rfl) (by kernel_rfl) Tryz.underlying160 Tryz.underlying5 (by kernel_rfl) (by kernel_rfl) h3
end
end Go.Proofs.YtenokfdkckhhiaaGreatDoor
