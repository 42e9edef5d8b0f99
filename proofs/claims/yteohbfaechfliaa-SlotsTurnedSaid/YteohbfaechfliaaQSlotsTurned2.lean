/-
  What the proof of the statement leans on: texts one behind the other.
-/
import Derived.Test.YteohbfaechfliaaQSlotsTurned0
import Derived.Test.YteohbfaechfliaaQSlotsTurnedGtree
import Derived.Test.YteohbfaechfliaaQSlotsTurnedGlaw00
import Derived.Test.YteohbfaechfliaaQSlotsTurnedGwalk
import Derived.Test.YteohbfaechfliaaQSlotsTurnedGlib
import Derived.Test.YteohbfaechfliaaQSlotsTurnedGslots
import Derived.Test.YteohbfaechfliaaQSlotsTurnedGref07
import Derived.Test.YteohbfaechfliaaQSlotsTurnedGref06
import Derived.Test.YteohbfaechfliaaQSlotsTurnedGmatch
import Derived.Test.YteohbfaechfliaaQSlotsTurnedGlaw25awake
import Derived.Test.YteohbfaechfliaaQSlotsTurnedGref05
import Derived.Lib.Bytealg
import Derived.MapKept
import Derived.Laws.MakeOwn
namespace Go.Proofs.Yteohbfaechfliaa
section
open Go.RowKit
theorem take_getD {l : List T} {i : Nat} (h : i < l.length) : l.take (i + 1) = l.take i ++ [l.getD i T.nul] := by
 rw [List.take_succ_eq_append_getElem h, List.getD_eq_getElem?_getD, List.getElem?_eq_getElem h]; rfl
theorem sum_take (f : T → Nat) {l : List T} {i : Nat} (h : i < l.length) : ((l.take (i + 1)).map f).sum = ((l.take i).map f).sum + f (l.getD i T.nul) := by
 rw [take_getD h]; simp
theorem foldr_max_snoc (l : List Nat) (x : Nat) : (l ++ [x]).foldr max 0 = max (l.foldr max 0) x := by
 induction l with
 |nil => simp
 |cons a r ih => simp only [List.cons_append, List.foldr_cons, ih]; omega
theorem max_take (f : T → Nat) {l : List T} {i : Nat} (h : i < l.length) : ((l.take (i + 1)).map f).foldr max 0 = max (((l.take i).map f).foldr max 0) (f (l.getD i T.nul)) := by
 rw [take_getD h, List.map_append]; exact foldr_max_snoc _ _
theorem sum_take_le (f : T → Nat) (l : List T) (i : Nat) : ((l.take i).map f).sum ≤ (l.map f).sum := by
 conv => rhs; rw [← List.take_append_drop i l]
 rw [List.map_append, List.sum_append]; omega
theorem treeSize {A : List Nat} : ∀ t : T, t.bulk ≤ 1099511627776 → ∀ {w : World} {sa sk : Sl}, RdT A w t sa sk →
  Calls Try.prog 78 #[tv t sa sk] w (Ret fun v w' => Ext w w' ∧ v = .int .i64 (t.size : Int)) := T.ind' fun t ih hb w sa sk h => by
 refine tree_Size.ok _ _ _ _ _ ?_
 unfold tree_Size.vc
 have hn := h.nkids
 have hcp := h.caps
 have hl := T.kids_len t
 intro w1 B1 _ hE1
 refine ⟨fun n i w2 => ∃ k : Nat, i = (k : Int) ∧ k ≤ t.kids.length ∧ n = ((1 + ((t.kids.take k).map T.size).sum : Nat) : Int) ∧ Ext w w2, fun _ i _ => t.kids.length - i.toNat, ⟨0, rfl, Nat.zero_le _, by simp, hE1⟩, ?_⟩
 rintro _ _ w2 ⟨k, rfl, hk, rfl, hE⟩
 refine ⟨fun hi => ?_, fun hi => ⟨hE, ?_⟩⟩
 ·have hk' : k < t.kids.length := by omega
  obtain ⟨p, sa', sk', hp, _, hc, hr⟩ := (h.ext hE).kid hk'
  rw [Int.toNat_natCast]
  have hm := getD_mem (d := T.nul) hk'
  have hs := sum_take T.size hk'
  have hsl := sum_take_le T.size t.kids (k + 1)
  have ht := T.size_eq t
  have htb := T.size_bulk t
  refine ⟨⟨by omega, hi⟩, p, hp, _, _, _, sa', sk', hc, fun w3 B3 _ hE3 => CallK.exact (ih _ hm (by have := T.kid_bulk hm; omega) (hr.ext hE3)) fun w4 hE4 => ⟨_, rfl, ⟨by omega, by omega⟩, ⟨by omega, by omega⟩, ⟨k + 1, by omega, by omega, by omega, (hE.trans hE3).trans hE4⟩, by dsimp only; omega⟩⟩
 ·have hkl : k = t.kids.length := by omega
  subst hkl
  rw [List.take_of_length_le (Nat.le_refl _), T.size_eq t]
theorem treeDepth {A : List Nat} : ∀ t : T, t.bulk ≤ 1099511627776 → ∀ {w : World} {sa sk : Sl}, RdT A w t sa sk →
  Calls Try.prog 79 #[tv t sa sk] w (Ret fun v w' => Ext w w' ∧ v = .int .i64 (t.depth : Int)) := T.ind' fun t ih hb w sa sk h => by
 refine tree_Depth.ok _ _ _ _ _ ?_
 unfold tree_Depth.vc
 have hn := h.nkids
 have hcp := h.caps
 have hl := T.kids_len t
 intro w1 B1 _ hE1
 refine ⟨fun n i w2 => ∃ k : Nat, i = (k : Int) ∧ k ≤ t.kids.length ∧ n = ((((t.kids.take k).map T.depth).foldr max 0 : Nat) : Int) ∧ Ext w w2, fun _ i _ => t.kids.length - i.toNat, ⟨0, rfl, Nat.zero_le _, by simp, hE1⟩, ?_⟩
 rintro _ _ w2 ⟨k, rfl, hk, rfl, hE⟩
 refine ⟨fun hi => ?_, fun hi => ?_⟩
 ·have hk' : k < t.kids.length := by omega
  obtain ⟨p, sa', sk', hp, _, hc, hr⟩ := (h.ext hE).kid hk'
  rw [Int.toNat_natCast]
  have hm := getD_mem (d := T.nul) hk'
  have hs := max_take T.depth hk'
  refine ⟨⟨by omega, hi⟩, p, hp, _, _, _, sa', sk', hc, fun w3 B3 _ hE3 => CallK.exact (ih _ hm (by have := T.kid_bulk hm; omega) (hr.ext hE3)) fun w4 hE4 => ⟨_, rfl, ⟨by omega, by omega⟩, ⟨k + 1, by omega, by omega, by omega, (hE.trans hE3).trans hE4⟩, by dsimp only; omega⟩⟩
 ·have hkl : k = t.kids.length := by omega
  subst hkl
  have h1 := T.depth_eq t
  have h2 := T.depth_size t
  have h3 := T.size_bulk t
  rw [List.take_of_length_le (Nat.le_refl _)]
  refine ⟨⟨by omega, by omega⟩, hE, ?_⟩
  rw [h1]; congr 1; omega
def byteOk (c : UInt8) : Bool := !(c.toNat == 9 || c.toNat == 10 || c.toNat == 12 || c.toNat == 32 || c.toNat == 0 || c.toNat == 34 || c.toNat == 39 || c.toNat == 62 || c.toNat == 47 || c.toNat == 61 || c.toNat == 60) && !(decide (65 ≤ c.toNat) && decide (c.toNat ≤ 90))
def nameOk (s : Str) : Bool := !(s.isEmpty) && decide (s.length ≤ 32) && s.all byteOk
def attrsOk : Str → List (Str × Str) → Bool
 |_, [] => true
 |last, p :: r => !(Op.bytesLess p.1 last) && !(decide (p.1 = last)) && nameOk p.1 && decide (p.2.length ≤ 4096) && attrsOk p.1 r
def nodeOk : T → Bool
 |.node k n x ats ks => if k = 2 then nameOk n && x.isEmpty && (decide (ats.length ≤ 12) && attrsOk [] ats) && ((ks.attach.map fun ⟨t, _⟩ => nodeOk t && !(decide (t.kind = 5))).all id)
  else ats.isEmpty && ks.isEmpty && (if k = 3 then n.isEmpty && !x.isEmpty && decide (x.length ≤ 4096) else if k = 4 then n.isEmpty && decide (x.length ≤ 4096) else if k = 5 then x.isEmpty && decide (n.length ≤ 32) else false)
def kidsOk (t : T) : Bool := t.kids.all fun u => nodeOk u && !(decide (u.kind = 5) && !(decide (t.kind = 1)))
def T.check (t : T) : Bool := decide (t.kind = 1) && decide (t.size ≤ 300) && decide (t.depth ≤ 60) && (t.name.isEmpty && t.text.isEmpty) && t.attrs.isEmpty && kidsOk t
theorem nodeOk_el {t : T} (h : t.kind = 2) : nodeOk t = (nameOk t.name && t.text.isEmpty && (decide (t.attrs.length ≤ 12) && attrsOk [] t.attrs) && kidsOk t) := by
 cases t with
 |node k n x ats ks =>
  have h : k = 2 := h
  subst h
  have e : (ks.attach.map fun (x : { x // x ∈ ks }) => nodeOk x.1 && !(decide (T.kind x.1 = 5))) = ks.map fun u => nodeOk u && !(decide (T.kind u = 5)) := List.attach_map_val (f := fun u => nodeOk u && !(decide (T.kind u = 5)))
  have e2 : kidsOk (.node 2 n x ats ks) = (ks.map fun u => nodeOk u && !(decide (T.kind u = 5))).all id := by
   unfold kidsOk; rw [List.all_map]; simp [T.kind, T.kids, Function.comp_def]
  rw [nodeOk, if_pos rfl, e2, ← e]; rfl
theorem nodeOk_ne {t : T} (h : t.kind ≠ 2) : nodeOk t = (t.attrs.isEmpty && t.kids.isEmpty && (if t.kind = 3 then t.name.isEmpty && !t.text.isEmpty && decide (t.text.length ≤ 4096) else if t.kind = 4 then t.name.isEmpty && decide (t.text.length ≤ 4096) else if t.kind = 5 then t.text.isEmpty && decide (t.name.length ≤ 32) else false)) := by
 cases t with
 |node k n x ats ks =>
  have h : k ≠ 2 := h
  rw [nodeOk, if_neg h]; rfl
theorem treeName {w : World} (s : Str) : Calls Try.prog 92 #[.string (Bs s)] w (Ret fun v w' => Ext w w' ∧ v = .bool (nameOk s)) := by
 refine tree_Name.ok _ ?_
 unfold tree_Name.vc
 refine ⟨fun hc => ⟨Chg.refl _ _, ?_⟩, fun hc => ?_⟩
 ·rcases hc with rfl | hc
  ·rfl
  ·have : nameOk s = false := by unfold nameOk; simp; omega
   rw [this]
 ·obtain ⟨h0, h32⟩ := hc
  refine ⟨fun i w1 => ∃ k : Nat, i = (k : Int) ∧ k ≤ s.length ∧ (s.take k).all byteOk = true ∧ Ext w w1, fun i _ => s.length - i.toNat, ⟨0, rfl, Nat.zero_le _, rfl, Chg.refl _ _⟩, ?_⟩
  rintro _ w1 ⟨k, rfl, hk, hall, hE⟩
  rw [Int.toNat_natCast]
  refine ⟨fun hi => ?_, fun hi => ⟨hE, ?_⟩⟩
  ·have hk' : k < s.length := by omega
   have hbad : byteOk (s.getD k 0) = false → nameOk s = false := fun hb => by
    have hm : s.getD k 0 ∈ s := by rw [List.getD_eq_getElem?_getD, List.getElem?_eq_getElem hk']; exact List.getElem_mem hk'
    unfold nameOk
    have : s.all byteOk = false := by
     rw [List.all_eq_false]; exact ⟨_, hm, fun h => by rw [hb] at h; cases h⟩
    rw [this, Bool.and_false]
   generalize hx : s.getD k 0 = c at hbad
   refine ⟨⟨by omega, hi⟩, fun hset => ⟨hE, ?_⟩, fun hset => ⟨fun hup => ⟨hE, ?_⟩, fun hup => ⟨⟨by omega, by omega⟩, ⟨k + 1, by omega, by omega, ?_, hE⟩, by dsimp only; omega⟩⟩⟩
   ·rw [hbad (by unfold byteOk; simp; intro; omega)]
   ·rw [hbad (by unfold byteOk; simp; omega)]
   ·rw [List.take_succ_eq_append_getElem hk', List.all_append, hall]
    have : s[k] = c := by rw [← hx, List.getD_eq_getElem?_getD, List.getElem?_eq_getElem hk']; rfl
    rw [this]
    simp only [List.all_cons, List.all_nil, Bool.and_true, Bool.true_and]
    unfold byteOk
    simp; omega
  ·have hkl : k = s.length := by omega
   subst hkl
   rw [List.take_of_length_le (Nat.le_refl _)] at hall
   unfold nameOk
   rw [hall]
   have : s.isEmpty = false := by cases s <;> simp_all
   simp [this]; omega
end
section
open Go.RowKit
theorem ones_ac (p : Str × Str) : ∀ u ∈ [ac p].flatten, u.oneCell' = true := by intro u hu; simp [ac] at hu; rcases hu with rfl | rfl <;> rfl
theorem ones_acs (l : List (Str × Str)) : ∀ u ∈ (l.map ac).flatten, u.oneCell' = true := by
 intro u hu
 obtain ⟨c, hc, hu⟩ := List.mem_flatten.1 hu
 obtain ⟨p, _, rfl⟩ := List.mem_map.1 hc
 exact ones_ac p u (by simpa using hu)
theorem ones_tc (t : T) (p : Sl × Sl) : ∀ u ∈ [tc t p].flatten, u.oneCell' = true := by intro u hu; simp [tc] at hu; rcases hu with rfl | rfl | rfl | rfl | rfl <;> rfl
def Nur (A : List Nat) (w : World) (s : Sl) (ts : List T) : Prop :=
 ∃ ps : List (Sl × Sl), ps.length = ts.length ∧ Own A w s 5 26 (List.zipWith tc ts ps) ∧ ∀ (i : Nat) (t : T) (p : Sl × Sl), ts[i]? = some t → ps[i]? = some p → RdT (s.blk ++ A) w t p.1 p.2
theorem Nur.nil (A : List Nat) (w : World) : Nur A w Sl.nil [] := ⟨[], rfl, Own.nil _ _ _ _, by simp⟩
theorem Nur.own {A : List Nat} {w : World} {s : Sl} {ts : List T} (h : Nur A w s ts) : s.n = ts.length ∧ s.n ≤ s.c ∧ s.c ≤ maxLen ∧ ∀ b ∈ s.blk, b ∉ A ∧ b < w.heap.size := by
 obtain ⟨ps, hl, ho, _⟩ := h
 have := ho.len
 exact ⟨by simp [hl] at this; omega, ho.cap, ho.most, ho.blk⟩
theorem Nur.chg {A F : List Nat} {w w' : World} {s : Sl} {ts : List T} (h : Nur A w s ts) (c : Chg F w w') (hF : ∀ b ∈ F, b ∈ A) : Nur A w' s ts := by
 obtain ⟨ps, hl, ho, hr⟩ := h
 exact ⟨ps, hl, ho.chg c hF, fun i t p ht hp => (hr i t p ht hp).chg c (fun b hb => List.mem_append_right _ (hF b hb))⟩
theorem Nur.ext {A : List Nat} {w w' : World} {s : Sl} {ts : List T} (h : Nur A w s ts) (c : Ext w w') : Nur A w' s ts := h.chg c (by simp)
theorem Nur.less {A A' : List Nat} {w : World} {s : Sl} {ts : List T} (h : Nur A w s ts) (hA : ∀ b ∈ A', b ∈ A) : Nur A' w s ts := by
 obtain ⟨ps, hl, ho, hr⟩ := h
 exact ⟨ps, hl, ho.less hA, fun i t p ht hp => (hr i t p ht hp).less (fun b hb => by
  rcases List.mem_append.1 hb with hb | hb
  ·exact List.mem_append_left _ hb
  ·exact List.mem_append_right _ (hA b hb))⟩
theorem Nur.rd {A : List Nat} {w : World} {s sa : Sl} {ts : List T} (h : Nur A w s ts) {k : Int} {n x : Str} {ats : List (Str × Str)} (ha : Row A w sa 2 (ats.map ac)) : RdT A w (.node k n x ats ts) sa s := by
 obtain ⟨ps, hl, ho, hr⟩ := h
 exact .mk ps ha hl ho.row (fun i t p ht hp => (hr i t p ht hp).less (fun b hb => List.mem_append_right _ hb))
theorem Nur.push {A bx : List Nat} {w : World} {s : Sl} {ts : List T} {u : T} {su sk : Sl} {B : Nat} {S ty : TypeId} {K : Value → World → Prop} (h : Nur A w s ts) (hA : ∀ b ∈ A, b < w.heap.size) (hB : Box w B S (tc u (su, sk))) (hu : RdT (s.blk ++ A) w u su sk)
  (hl : ts.length + 1 ≤ 1099511627776) (hbx : ∀ b ∈ bx, b ∈ A) (k : ∀ s' w', Nur A w' s' (ts ++ [u]) → Chg s.own w w' → (∀ b ∈ s'.blk, b ∈ s.own ∨ w.heap.size ≤ b) → K s'.v w') :
  RunK Try.prog (Builtin.append_ #[24, 24] ty #[s.v, Sl.v (Sl.mk (some ⟨B, 0, none⟩) 1 1)]) w bx K := by
 have hn := h.own.1
 obtain ⟨ps, hpl, ho, hr⟩ := h
 have hx : Row [] w (Sl.mk (some ⟨B, 0, none⟩) 1 1) 5 [tc u (su, sk)] :=
  ⟨rfl, Nat.le_refl _, by simp [maxLen], fun i hi => by
   have : i = 0 := by simpa using hi
   subst this
   exact ⟨_, rfl, by simp, by rw [Nat.zero_mul, Addr.add_zero']; exact hB.cells, rfl⟩⟩
 refine App.runK Try.underlying24 ti_26 rfl (by decide) (.inl ho) hA hx (ones_tc u _) (by simp) (by simp only [maxLen, List.length_singleton]; omega) (by simp only [List.length_singleton]; omega) hbx fun s' w' ho' hc hb => k s' w' ?_ hc hb
 have back : ∀ {t : T} {p : Sl × Sl}, RdT (s.blk ++ A) w t p.1 p.2 → RdT (s'.blk ++ A) w' t p.1 p.2 := fun {t p} hr => by
  have h1 : ∀ b ∈ s'.blk, b ∈ s.blk ++ A ∨ w.heap.size ≤ b := fun b hm => (hb b hm).imp_left (fun h => List.mem_append_left _ (Sl.own_blk h))
  have h2 : ∀ L : List Nat, (∀ b ∈ L, b ∈ s.blk ++ A ∨ w.heap.size ≤ b) → RdT (L ++ (s.blk ++ A)) w t p.1 p.2 := fun L => by
   induction L with
   |nil => intro _; exact hr
   |cons b L ih =>
    intro hL
    have h3 := ih (fun b hb => hL b (List.mem_cons_of_mem _ hb))
    rcases hL b (List.mem_cons_self ..) with hm | hm
    ·refine h3.less fun x hx => ?_
     rcases List.mem_append.1 hx with hx | hx
     ·rcases List.mem_cons.1 hx with e | hx
      ·subst e; exact List.mem_append_right _ hm
      ·exact List.mem_append_left _ hx
     ·exact List.mem_append_right _ hx
    ·exact h3.fresh hm
  refine ((h2 s'.blk h1).chg hc (fun b hb => List.mem_append_right _ (List.mem_append_left _ (Sl.own_blk hb)))).less fun x hx => ?_
  rcases List.mem_append.1 hx with hx | hx
  ·exact List.mem_append_left _ hx
  ·exact List.mem_append_right _ (List.mem_append_right _ hx)
 refine ⟨ps ++ [(su, sk)], by simp [hpl], ?_, fun i t p ht hp => ?_⟩
 ·rw [List.zipWith_append (by omega)]; exact ho'
 ·rcases Nat.lt_trichotomy i ts.length with hi | hi | hi
  ·rw [List.getElem?_append_left hi] at ht
   rw [List.getElem?_append_left (by omega)] at hp
   exact back (hr i t p ht hp)
  ·rw [List.getElem?_append_right (by omega)] at ht hp
   rw [hi, Nat.sub_self] at ht
   rw [hi, hpl, Nat.sub_self] at hp
   simp at ht hp; subst ht; subst hp
   exact back (p := (su, sk)) hu
  ·have := (List.getElem?_eq_some_iff.1 ht).1
   simp at this; omega
theorem lawAttrs {A : List Nat} {w : World} {b : Sl} {l : List (Str × Str)} (h : Row A w b 2 (l.map ac)) (hb : l.length ≤ 1099511627776) :
  Calls Try.prog 43 #[b.v] w (Ret fun v w' => Ext w w' ∧ ∃ s : Sl, v = s.v ∧ Own (List.range w.heap.size) w' s 2 47 (l.map ac)) := by
 refine law00_Attrs.ok _ ?_
 unfold law00_Attrs.vc
 have hl := h.len
 simp only [List.length_map] at hl
 cases hx : l with
 |nil =>
  have e := append_none (P := Try.prog) (w := w) (s := Sl.nil) (x := b) (t := 23) (ty := 23) Try.underlying23 ti_47 (Nat.le_refl _) (by rw [hl, hx]; rfl)
  exact ⟨_, _, e, fun _ _ _ => rfl, Nat.le_refl _, Sl.nil, rfl, Chg.refl _ _, Sl.nil, rfl, Own.nil _ _ _ _⟩
 |cons x r =>
  rw [← hx]
  refine App.runK Try.underlying23 ti_47 rfl (by decide) (.inl (Own.nil (List.range w.heap.size) _ _ _)) (fun b hb => List.mem_range.1 hb) (h.less (by simp)) (ones_acs l) (by rw [hx]; simp) (by simp [maxLen]; omega) (by simp; omega) (by simp) fun s' w' ho hc hb => ⟨s', rfl, ?_, s', rfl, ho⟩
  exact hc.mono (by simp [Sl.own])
theorem lawTree {A : List Nat} : ∀ t : T, t.bulk ≤ 1099511627776 → ∀ {w : World} {sa sk : Sl}, RdT A w t sa sk →
  Calls Try.prog 19 #[tv t sa sk] w (Ret fun v w' => Ext w w' ∧ ∃ sa' sk' : Sl, v = tv t sa' sk' ∧ RdT (List.range w.heap.size) w' t sa' sk') := T.ind' fun t ih hb w sa sk h => by
 refine law00_Tree.ok _ _ _ _ _ ?_
 unfold law00_Tree.vc
 have hn := h.nkids
 have hcp := h.caps
 have hl := T.kids_len t
 have hla : t.attrs.length ≤ 1099511627776 := by have := T.slots_bulk t; have := T.slots_eq t; omega
 intro w1 B2 B10 hN2 hN10 hne hE1
 refine ⟨fun r w' => Own (List.range w1.heap.size) w' r 2 47 (t.attrs.map ac), fun r w' w'' hE h => h.ext hE, fun w' hE => (lawAttrs ((h.ext (hE1.trans hE)).attrs) hla).mono fun e w'' he => by
  cases e with
  |returned v => obtain ⟨h1, s, h2, h3⟩ := he; exact ⟨h1, s, h2, h3.less fun b hb => List.mem_range.2 (Nat.lt_of_lt_of_le (List.mem_range.1 hb) hE.size)⟩
  |_ => exact he, ?_⟩
 intro w2 sa' B45 hE2 hV hB45 hbox w3 hE3
 have hE13 : Ext w1 w3 := Chg.fresh hE2 hE3 (by simpa using hB45)
 have hAt : Own (B45 :: List.range w1.heap.size) w3 sa' 2 47 (t.attrs.map ac) := (hV.cons (hV.other hbox (by decide))).chg hE3 (by simp)
 have hlt3 : w1.heap.size ≤ w3.heap.size := hE13.size
 have hB3 : B45 < w3.heap.size := Nat.lt_of_lt_of_le hbox.lt hE3.size
 refine ⟨fun i c w' => ∃ k : Nat, i = (k : Int) ∧ k ≤ t.kids.length ∧ Nur (B45 :: List.range w1.heap.size) w' c (t.kids.take k) ∧ Own (B45 :: List.range w1.heap.size) w' sa' 2 47 (t.attrs.map ac) ∧ (∀ b ∈ c.blk, b ∉ sa'.blk) ∧ w3.heap.size ≤ w'.heap.size ∧ Ext w1 w', fun i _ _ => t.kids.length - i.toNat, ⟨0, rfl, Nat.zero_le _, Nur.nil _ _, hAt, by simp [Sl.blk], Nat.le_refl _, hE13⟩, ?_⟩
 rintro _ c w4 ⟨k, rfl, hk, hNur, hAt4, hdis, hsz, hE4⟩
 have hA4 : ∀ b ∈ B45 :: List.range w1.heap.size, b < w4.heap.size := fun b hb => by
  rcases List.mem_cons.1 hb with rfl | hb
  ·omega
  ·have := List.mem_range.1 hb; omega
 refine ⟨fun hi w5 hE5 => ?_, fun hi w5 hE5 => ?_⟩
 ·have hk' : k < t.kids.length := by omega
  obtain ⟨p, sau, sku, hp, _, hc, hr⟩ := (h.ext ((hE1.trans hE4).trans hE5)).kid hk'
  rw [Int.toNat_natCast]
  have hm := getD_mem (d := T.nul) hk'
  refine ⟨p, ⟨⟨by omega, hi⟩, hp⟩, _, _, _, sau, sku, hc, fun kd n x a b w' => kd = (t.kids.getD k T.nul).kind ∧ n = (t.kids.getD k T.nul).name ∧ x = (t.kids.getD k T.nul).text ∧ RdT (List.range w5.heap.size) w' (t.kids.getD k T.nul) a b,
   fun _ _ _ _ _ w' w'' hE hv => ⟨hv.1, hv.2.1, hv.2.2.1, hv.2.2.2.ext hE⟩, fun w' hE => (ih _ hm (by have := T.kid_bulk hm; omega) (hr.ext hE)).mono fun e w'' he => by
    cases e with
    |returned v => obtain ⟨h1, a, b, h2, h3⟩ := he; exact ⟨h1, _, _, _, a, b, h2, rfl, rfl, rfl, h3.less fun b hb => List.mem_range.2 (Nat.lt_of_lt_of_le (List.mem_range.1 hb) hE.size)⟩
    |_ => exact he, ?_⟩
  rintro w6 _ _ _ a b B6 hE6 ⟨rfl, rfl, rfl, hV6⟩ hB6 hbox6 _
  have hE56 : Ext w4 w6 := hE5.trans hE6
  refine (hNur.ext hE56).push (fun b hb => Nat.lt_of_lt_of_le (hA4 b hb) hE56.size) hbox6 ?_ (by simp; omega) ?_ fun s' w7 hN hC hbl => ⟨s', rfl, ⟨by omega, by omega⟩, fun w8 hE8 => ⟨⟨k + 1, by omega, by omega, ?_, ?_, ?_, ?_, ?_⟩, by dsimp only; omega⟩⟩
  ·refine hV6.less fun x hx => List.mem_range.2 ?_
   have := hE5.size
   rcases List.mem_append.1 hx with hx | hx
   ·have := (hNur.own.2.2.2 x hx).2; omega
   ·have := hA4 x hx; omega
  ·intro b hb
   simp only [List.mem_cons, List.not_mem_nil, or_false] at hb
   rcases hb with rfl | rfl | rfl
   ·exact List.mem_cons_of_mem _ (List.mem_range.2 hN2.lt)
   ·exact List.mem_cons_of_mem _ (List.mem_range.2 hN10.lt)
   ·simp
  ·rw [take_getD hk']; exact hN.chg hE8 (by simp)
  ·have := (hAt4.ext hE56)
   have h2 : Own (c.own ++ (B45 :: List.range w1.heap.size)) w6 sa' 2 47 (t.attrs.map ac) := this.avoid fun b hb hm => by
    rcases List.mem_append.1 hm with hm | hm
    ·exact hdis b (Sl.own_blk hm) hb
    ·exact (this.blk b hb).1 hm
   exact (Own.less (A' := B45 :: List.range w1.heap.size) (h2.chg hC (fun b hb => List.mem_append_left _ hb)) (fun b hb => List.mem_append_right _ hb)).chg hE8 (by simp)
  ·intro b hb hm
   rcases hbl b hb with h | h
   ·exact hdis b (Sl.own_blk h) hm
   ·have := (hAt4.blk b hm).2
    have := hE56.size; omega
  ·have h1 := hE56.size; have h2 := hC.size; have h3 := hE8.size; omega
  ·refine Chg.fresh (Chg.fresh (hE4.trans hE56) hC fun x hx => ?_) hE8 (by simpa using hB45)
   have := (hNur.own.2.2.2 x (Sl.own_blk hx)).1
   simp at this; omega
 ·have hkl : k = t.kids.length := by omega
  subst hkl
  rw [List.take_of_length_le (Nat.le_refl _)] at hNur
  have hF : ∀ b ∈ [B10], b ∈ B45 :: List.range w1.heap.size := by intro b hb; simp at hb; subst hb; exact List.mem_cons_of_mem _ (List.mem_range.2 hN10.lt)
  have := (hNur.chg hE5 hF).rd (k := t.kind) (n := t.name) (x := t.text) (hAt4.chg hE5 hF).row
  refine ⟨Chg.fresh (hE1.trans hE4) hE5 (by simpa using hN10.ge), sa', c, rfl, ?_⟩
  have e : t = .node t.kind t.name t.text t.attrs t.kids := by cases t; rfl
  rw [e]
  exact this.less fun b hb => List.mem_cons_of_mem _ (List.mem_range.2 (Nat.lt_of_lt_of_le (List.mem_range.1 hb) hE1.size))
end
section
open Go.RowKit
theorem attrsOk_drop {last : Str} {l : List (Str × Str)} {k : Nat} (h : k < l.length) : attrsOk last (l.drop k) = (!(Op.bytesLess (l.getD k ([], [])).1 last) && !(decide ((l.getD k ([], [])).1 = last)) && nameOk (l.getD k ([], [])).1 && decide ((l.getD k ([], [])).2.length ≤ 4096) && attrsOk (l.getD k ([], [])).1 (l.drop (k + 1))) := by
 rw [List.drop_eq_getElem_cons h, List.getD_eq_getElem?_getD, List.getElem?_eq_getElem h]; rfl
theorem treeAttrs {A : List Nat} {w : World} {s : Sl} {l : List (Str × Str)} (h : Row A w s 2 (l.map ac)) :
  Calls Try.prog 93 #[s.v] w (Ret fun v w' => Ext w w' ∧ v = .bool (decide (l.length ≤ 12) && attrsOk [] l)) := by
 refine tree_attrs.ok _ ?_
 unfold tree_attrs.vc
 have hl := h.len
 simp only [List.length_map] at hl
 refine ⟨fun hb => ⟨Chg.refl _ _, ?_⟩, fun hb => ?_⟩
 ·have : decide (l.length ≤ 12) = false := decide_eq_false (by omega)
  rw [this]; rfl
 ·have h12 : decide (l.length ≤ 12) = true := decide_eq_true (by omega)
  rw [h12, Bool.true_and]
  refine ⟨fun last i w1 => ∃ k : Nat, i = (k : Int) ∧ k ≤ l.length ∧ attrsOk [] l = attrsOk last (l.drop k) ∧ Ext w w1, fun _ i _ => l.length - i.toNat, ⟨0, rfl, Nat.zero_le _, rfl, Chg.refl _ _⟩, ?_⟩
  rintro last _ w1 ⟨k, rfl, hk, heq, hE⟩
  rw [Int.toNat_natCast]
  refine ⟨fun hi => ?_, fun hi => ⟨hE, ?_⟩⟩
  ·have hk' : k < l.length := by omega
   obtain ⟨p, hp, _, hc, _⟩ := (h.ext hE).at_ k (by simpa using hk')
   have e : (l.map ac).getD k [] = ac (l.getD k ([], [])) := by simp [List.getD_eq_getElem?_getD, hk']
   rw [e] at hc
   rw [attrsOk_drop hk'] at heq
   rw [heq]
   generalize l.getD k ([], []) = q at hc heq
   obtain ⟨qn, qv⟩ := q
   refine ⟨⟨by omega, hi⟩, p, hp, qn, qv, hc, fun w2 B2 _ hE2 => ⟨nameOk qn, fun _ => treeName qn, fun w3 hE3 => ⟨fun hbad => ⟨(hE.trans hE2).trans hE3, ?_⟩, fun hgood => ⟨⟨by omega, by omega⟩, ⟨k + 1, by omega, by omega, ?_, (hE.trans hE2).trans hE3⟩, by dsimp only; omega⟩⟩⟩⟩
   ·rcases hbad with ((hb | hb) | hb) | hb
    ·simp [hb]
    ·simp [hb]
    ·simp [hb]
    ·have : decide (qv.length ≤ 4096) = false := decide_eq_false (by omega)
     simp [this]
   ·obtain ⟨⟨⟨h1, h2⟩, h3⟩, h4⟩ := hgood
    have : decide (qv.length ≤ 4096) = true := decide_eq_true (by omega)
    simp [h1, h2, h3, this]
  ·have hkl : k = l.length := by omega
   subst hkl
   rw [heq, List.drop_length]; rfl
theorem treeEmpty {A : List Nat} {w : World} {s : Sl} {l : List Str} (h : Row A w s 1 (l.map fun x => [.string (Bs x)])) :
  Calls Try.prog 80 #[s.v] w (Ret fun v w' => Ext w w' ∧ v = .bool (l.all List.isEmpty)) := by
 refine tree_empty.ok _ ?_
 unfold tree_empty.vc
 have hl := h.len
 have hcp := h.most
 have hcc := h.cap
 simp only [maxLen] at hcp
 simp only [List.length_map] at hl
 refine ⟨fun i w1 => ∃ k : Nat, i = (k : Int) ∧ k ≤ l.length ∧ l.all List.isEmpty = (l.drop k).all List.isEmpty ∧ Ext w w1, fun i _ => l.length - i.toNat, ⟨0, rfl, Nat.zero_le _, rfl, Chg.refl _ _⟩, ?_⟩
 rintro _ w1 ⟨k, rfl, hk, heq, hE⟩
 rw [Int.toNat_natCast]
 refine ⟨fun hi => ?_, fun hi => ⟨hE, ?_⟩⟩
 ·have hk' : k < l.length := by omega
  obtain ⟨p, hp, _, hc, _⟩ := (h.ext hE).at_ k (by simpa using hk')
  have e : (l.map fun x => [Value.string (Bs x)]).getD k [] = [.string (Bs (l[k]))] := by simp [List.getD_eq_getElem?_getD, hk']
  rw [e] at hc
  have hc0 := hc 0 _ rfl
  rw [Addr.add_zero'] at hc0
  rw [List.drop_eq_getElem_cons hk', List.all_cons] at heq
  refine ⟨⟨by omega, hi⟩, p, hp, l[k], hc0, fun hne => ⟨hE, ?_⟩, fun he => ⟨⟨by omega, by omega⟩, ⟨k + 1, by omega, by omega, ?_, hE⟩, by dsimp only; omega⟩⟩
  ·have : List.isEmpty l[k] = false := by cases hx : l[k] <;> simp_all
   rw [heq, this]; rfl
  ·have he : l[k] = [] := Classical.not_not.1 he
   rw [heq, he]; rfl
 ·have hkl : k = l.length := by omega
  subst hkl
  rw [heq, List.drop_length]; rfl
theorem treeKids {A : List Nat} (t : T) (hb : t.bulk ≤ 1099511627776)
  (ih : ∀ u ∈ t.kids, ∀ {w : World} {sa sk : Sl}, RdT A w u sa sk → Calls Try.prog 89 #[tv u sa sk] w (Ret fun v w' => Ext w w' ∧ v = .bool (nodeOk u))) {w : World} {sa sk : Sl} (h : RdT A w t sa sk) :
  Calls Try.prog 81 #[tv t sa sk] w (Ret fun v w' => Ext w w' ∧ v = .bool (kidsOk t)) := by
 refine tree_kids.ok _ _ _ _ _ ?_
 unfold tree_kids.vc
 have hn := h.nkids
 have hcp := h.caps
 have hl := T.kids_len t
 intro w1 B1 _ hE1
 refine ⟨fun i w2 => ∃ k : Nat, i = (k : Int) ∧ k ≤ t.kids.length ∧ kidsOk t = (t.kids.drop k).all (fun u => nodeOk u && !(decide (u.kind = 5) && !(decide (t.kind = 1)))) ∧ Ext w w2, fun i _ => t.kids.length - i.toNat, ⟨0, rfl, Nat.zero_le _, rfl, hE1⟩, ?_⟩
 rintro _ w2 ⟨k, rfl, hk, heq, hE⟩
 refine ⟨fun hi => ?_, fun hi => ⟨hE, ?_⟩⟩
 ·have hk' : k < t.kids.length := by omega
  obtain ⟨p, sa', sk', hp, _, hc, hr⟩ := (h.ext hE).kid hk'
  rw [Int.toNat_natCast]
  have hm := getD_mem (d := T.nul) hk'
  rw [List.drop_eq_getElem_cons hk', List.all_cons, show t.kids[k] = t.kids.getD k T.nul by rw [List.getD_eq_getElem?_getD, List.getElem?_eq_getElem hk']; rfl] at heq
  refine ⟨⟨by omega, hi⟩, p, hp, _, _, _, sa', sk', hc, fun w3 B3 _ hE3 => CallK.exact (ih _ hm (hr.ext hE3)) fun w4 hE4 => ⟨_, rfl, fun hbad => ⟨(hE.trans hE3).trans hE4, ?_⟩, fun hgood => ⟨⟨by omega, by omega⟩, ⟨k + 1, by omega, by omega, ?_, (hE.trans hE3).trans hE4⟩, by dsimp only; omega⟩⟩⟩
  ·rw [heq]
   rcases hbad with hb | ⟨hb1, hb2⟩
   ·rw [hb]; rfl
   ·rw [decide_eq_true hb1, decide_eq_false hb2]; simp
  ·rw [heq, hgood.1]
   rcases hgood.2 with hb | hb
   ·rw [decide_eq_false hb]; simp
   ·rw [decide_eq_true (Classical.not_not.1 hb)]; simp
 ·have hkl : k = t.kids.length := by omega
  subst hkl
  rw [heq, List.drop_length]; rfl
theorem isEmpty_dec (s : Str) : decide (s = ([] : Str)) = s.isEmpty := by cases s <;> rfl
theorem isEmpty_ndec (s : Str) : decide (s ≠ ([] : Str)) = !s.isEmpty := by cases s <;> rfl
theorem le_dec (s : Str) (n : Nat) : decide ((s.length : Int) ≤ (n : Int)) = decide (s.length ≤ n) := by rw [Bool.eq_iff_iff]; simp
theorem treeNode {A : List Nat} : ∀ t : T, t.bulk ≤ 1099511627776 → ∀ {w : World} {sa sk : Sl}, RdT A w t sa sk →
  Calls Try.prog 89 #[tv t sa sk] w (Ret fun v w' => Ext w w' ∧ v = .bool (nodeOk t)) := T.ind' fun t ih hb w sa sk h => by
 refine tree_node.ok _ _ _ _ _ ?_
 unfold tree_node.vc
 have hn := h.nkids
 have hna := h.nattrs
 refine ⟨fun h2 => ?_, fun h2 => ?_⟩
 ·rw [nodeOk_el h2]
  intro w1 B1 _ hE1
  refine CallK.exact (treeName t.name) fun w2 hE2 => ⟨_, rfl, _, fun _ => treeAttrs (h.attrs.ext (hE1.trans hE2)), fun w3 hE3 => ⟨kidsOk t, fun _ => treeKids t hb (fun u hu _ _ _ hr => ih u hu (by have := T.kid_bulk hu; omega) hr) (h.ext ((hE1.trans hE2).trans hE3)), fun w4 hE4 => ⟨((hE1.trans hE2).trans hE3).trans hE4, ?_⟩⟩⟩
  rw [isEmpty_dec]
 ·rw [nodeOk_ne h2]
  refine ⟨fun hbad w1 B1 _ hE1 => ⟨hE1, ?_⟩, fun hgood => ?_⟩
  ·have : (t.attrs.isEmpty && t.kids.isEmpty) = false := by
    rcases hbad with hb | hb
    ·have : t.attrs.isEmpty = false := by cases hx : t.attrs <;> simp_all
     rw [this]; rfl
    ·have : t.kids.isEmpty = false := by cases hx : t.kids <;> simp_all
     rw [this, Bool.and_false]
   rw [this, Bool.false_and]
  ·have ha : t.attrs.isEmpty = true := by cases hx : t.attrs <;> simp_all
   have hk : t.kids.isEmpty = true := by cases hx : t.kids <;> simp_all
   rw [ha, hk, Bool.true_and, Bool.true_and]
   have l4 := le_dec t.text 4096
   have l3 := le_dec t.name 32
   rw [show ((4096 : Nat) : Int) = 4096 from rfl] at l4
   rw [show ((32 : Nat) : Int) = 32 from rfl] at l3
   refine ⟨fun h3 w1 B1 _ hE1 => ⟨hE1, ?_⟩, fun h3 => ⟨fun h4 w1 B1 _ hE1 => ⟨hE1, ?_⟩, fun h4 => ⟨fun h5 w1 B1 _ hE1 => ⟨hE1, ?_⟩, fun h5 w1 B1 _ hE1 => ⟨hE1, ?_⟩⟩⟩⟩
   ·rw [if_pos h3, isEmpty_dec, isEmpty_ndec, l4]
   ·rw [if_neg h3, if_pos h4, isEmpty_dec, l4]
   ·rw [if_neg h3, if_neg h4, if_pos h5, isEmpty_dec, l3]
   ·rw [if_neg h3, if_neg h4, if_neg h5]
theorem Box.strs {w : World} {B : Nat} {S : TypeId} {l : List Str} (h : Box w B S (l.map fun x => .string (Bs x))) (hl : l.length ≤ 1000) : Row [] w (Sl.mk (some ⟨B, 0, none⟩) l.length l.length) 1 (l.map fun x => [.string (Bs x)]) := by
 refine ⟨by simp, Nat.le_refl _, by simp only [maxLen]; omega, fun i hi => ⟨⟨B, 0, none⟩, rfl, by simp, fun j v hj => ?_, ?_⟩⟩
 ·simp only [List.length_map] at hi
  have e : (l.map fun x => [Value.string (Bs x)]).getD i [] = [.string (Bs (l[i]))] := by simp [List.getD_eq_getElem?_getD, hi]
  rw [e] at hj
  cases j with
  |succ j => simp at hj
  |zero =>
   simp only [List.getElem?_cons_zero, Option.some.injEq] at hj
   subst hj
   rw [Addr.add_add, Addr.add_lit, Nat.mul_one, Nat.add_zero, Nat.zero_add]
   exact h.cell i _ (by simp [hi])
 ·simp only [List.length_map] at hi
  simp [List.getD_eq_getElem?_getD, hi]
theorem treeCheck {A : List Nat} (t : T) (hb : t.bulk ≤ 1099511627776) {w : World} {sa sk : Sl} (h : RdT A w t sa sk) :
  Calls Try.prog 60 #[tv t sa sk] w (Ret fun v w' => Ext w w' ∧ v = .bool t.check) := by
 refine tree_Check.ok _ _ _ _ _ ?_
 unfold tree_Check.vc
 have hna := h.nattrs
 intro w1 B1 _ hE1
 refine ⟨_, fun _ => treeSize t hb (h.ext hE1), fun w2 hE2 => ⟨_, fun _ => treeDepth t hb (h.ext (hE1.trans hE2)), fun w3 hE3 w4 hE4 B4 _ hB4 => ?_⟩⟩
 have hE14 := ((hE1.trans hE2).trans hE3).trans hE4
 refine ⟨(t.name.isEmpty && t.text.isEmpty), fun hg => ?_, fun w5 hE5 => ⟨kidsOk t, fun _ => treeKids t hb (fun u hu _ _ _ hr => treeNode u (by have := T.kid_bulk hu; omega) hr) (h.ext (hE14.trans hE5)), fun w6 hE6 => ⟨(hE14.trans hE5).trans hE6, ?_⟩⟩⟩
 ·have := treeEmpty (Box.strs (l := [t.name, t.text]) (hB4 hg) (by simp))
  simpa using this
 ·unfold T.check
  have e1 : decide ((t.size : Int) ≤ 300) = decide (t.size ≤ 300) := by rw [Bool.eq_iff_iff]; simp; omega
  have e2 : decide ((t.depth : Int) ≤ 60) = decide (t.depth ≤ 60) := by rw [Bool.eq_iff_iff]; simp; omega
  have e3 : decide ((sa.n : Int) = 0) = t.attrs.isEmpty := by
   rw [hna]; cases t.attrs with
   |nil => rfl
   |cons a r => simp; omega
  rw [e1, e2, e3]
end
section
open Go.RowKit
theorem place {w : World} (v n : Int) (hn : 0 < n) (hn63 : n ≤ 9223372036854775807) : Calls Try.prog 49 #[.int .i64 v, .int .i64 n] w (Ret fun u w' => Ext w w' ∧ u = .int .i64 (v.emod n)) := by
 refine law00_Place.ok _ _ ?_
 unfold law00_Place.vc
 have h1 := Int.tmod_eq_emod (a := v) (b := n)
 have h2 := Int.emod_nonneg v (show n ≠ 0 by omega)
 have h3 := Int.emod_lt_of_pos v hn
 have h4 : (((if 0 ≤ v ∨ n ∣ v then 0 else n.natAbs : Nat)) : Int) = 0 ∨ (((if 0 ≤ v ∨ n ∣ v then 0 else n.natAbs : Nat)) : Int) = n := by
  split
  ·exact .inl rfl
  ·right; omega
 generalize (((if 0 ≤ v ∨ n ∣ v then 0 else n.natAbs : Nat)) : Int) = q at h1 h4
 refine ⟨by omega, fun h => ⟨⟨by omega, by omega⟩, Chg.refl _ _, ?_⟩, fun h => ⟨Chg.refl _ _, ?_⟩⟩
 ·show Value.int .i64 _ = Value.int .i64 (v % n)
  rw [show v.tmod n + n = v % n by omega]
 ·show Value.int .i64 _ = Value.int .i64 (v % n)
  rw [show v.tmod n = v % n by omega]
end
section
open Go.RowKit
theorem and_mask (x : Int) : ∃ r : Nat, bits .and .i64 x 1099511627775 = (r : Int) ∧ r < 1099511627776 := by
 have hle : (BitVec.ofInt 64 x &&& BitVec.ofInt 64 1099511627775).toNat ≤ 1099511627775 := by
  rw [BitVec.toNat_and]; exact Nat.and_le_right
 refine ⟨(BitVec.ofInt 64 x &&& BitVec.ofInt 64 1099511627775).toNat, ?_, by omega⟩
 show IntKind.i64.wrap (((BitVec.ofInt 64 x &&& BitVec.ofInt 64 1099511627775).toNat : Nat) : Int) = _
 rw [IntKind.wrap_i64]
 omega
def ic (z : Int) : List Value := [.int .i64 z]
theorem lawNext {A : List Nat} {w : World} {l : Sl} {zs : List Int} {B x : Nat} (h : Row A w l 1 (zs.map ic)) (hA : B ∈ A) (hB : Box w B 3 [.int .i64 (x : Int)]) (hx : x ≤ 1099511627776) :
  Calls Try.prog 25 #[l.v, .pointer (some ⟨B, 0, none⟩)] w (Ret fun v w' => Chg [B] w w' ∧ ∃ r x' : Nat, v = .int .i64 (r : Int) ∧ r < 1099511627776 ∧ x' ≤ x + 1 ∧ Box w' B 3 [.int .i64 (x' : Int)]) := by
 refine law00_next.ok _ _ ?_
 unfold law00_next.vc
 have hl := h.len
 have hm := h.most
 have hcap := h.cap
 simp only [maxLen] at hm
 simp only [List.length_map] at hl
 refine ⟨fun _ => ⟨Chg.refl _ _, 0, x, rfl, by decide, by omega, hB⟩, fun hne => ⟨(x : Int), hB.cell 0 _ rfl, ⟨by omega, by omega⟩, B, 0, 3, _, rfl, hB, by simp, by simp, fun w1 hC1 hB1 w2 hE2 => ?_⟩⟩
 have hB1 : Box w1 B 3 [.int .i64 ((x + 1 : Nat) : Int)] := hB1
 have hB2 := hB1.ext hE2
 have ed : (((x + 1 : Nat) : Int)).tdiv (l.n : Int) = (((x + 1) / l.n : Nat) : Int) := rfl
 have hle : (x + 1) / l.n ≤ x + 1 := Nat.div_le_self _ _
 refine ⟨((x + 1 : Nat) : Int), hB2.cell 0 _ rfl, ⟨by omega, by omega⟩, ((x + 1 : Nat) : Int), hB2.cell 0 _ rfl, ?_⟩
 rw [ed]
 clear ed
 generalize (x + 1) / l.n = d at hle
 refine ⟨⟨hne, ⟨by omega, by omega⟩⟩, ⟨by omega, by omega⟩, _, fun w' _ => place _ _ (by omega) (by omega), ?_⟩
 have h1 : 0 ≤ (((x + 1 : Nat) : Int) * 5 + (d : Int)).emod (l.n : Int) := Int.emod_nonneg _ hne
 have h2 : (((x + 1 : Nat) : Int) * 5 + (d : Int)).emod (l.n : Int) < (l.n : Int) := Int.emod_lt_of_pos _ (show (0 : Int) < l.n by omega)
 generalize (((x + 1 : Nat) : Int) * 5 + (d : Int)).emod (l.n : Int) = q at h1 h2
 have hr : Row A w2 l 1 (zs.map ic) := (h.chg hC1 (by simpa using hA)).ext hE2
 obtain ⟨p, hp, _, hcell, _⟩ := hr.at_ q.toNat (by simp; omega)
 have e : (zs.map ic).getD q.toNat [] = ic (zs.getD q.toNat 0) := by
  have hq : q.toNat < zs.length := by omega
  simp [List.getD_eq_getElem?_getD, hq]
 rw [e] at hcell
 have hc0 := hcell 0 _ rfl
 rw [Addr.add_zero'] at hc0
 refine ⟨p, ⟨⟨h1, h2⟩, hp⟩, _, hc0, fun w3 hE3 => ?_⟩
 obtain ⟨r, hr1, hr2⟩ := and_mask (zs.getD q.toNat 0)
 rw [hr1]
 exact ⟨(hC1.trans (Chg.ext hE2)).trans (Chg.ext hE3), r, x + 1, rfl, hr2, Nat.le_refl _, hB2.ext hE3⟩
inductive Calm : T → Prop where
 |node (k : Int) (n x : Str) (ats : List (Str × Str)) (ks : List T) : (∀ p ∈ ats, p.1 ≠ [122, 122]) → (∀ u ∈ ks, Calm u) → Calm (.node k n x ats ks)
structure Sprout (d : Nat) (t : T) : Prop where
 ok : nodeOk t = true
 kind : 2 ≤ t.kind ∧ t.kind ≤ 4
 deep : t.depth ≤ d
 few : t.bulk ≤ 15 * t.size
 calm : Calm t
theorem Sprout.up {d e : Nat} {t : T} (h : Sprout d t) (he : d ≤ e) : Sprout e t := ⟨h.ok, h.kind, Nat.le_trans h.deep he, h.few, h.calm⟩
theorem sprout_comment (s : Str) (h : s.length ≤ 3) : Sprout 1 (.node 4 [] s [] []) :=
 ⟨by rw [nodeOk_ne (by simp [T.kind])]; simp [T.kind, T.name, T.text, T.attrs, T.kids]; exact decide_eq_true (by omega), by simp [T.kind], by simp [T.depth_eq, T.kids], by simp [T.bulk_eq, T.size_eq, T.kids, T.name, T.text, T.attrs]; omega, .node _ _ _ _ _ (by simp) (by simp)⟩
theorem sprout_text (s : Str) (h : s.length = 1) : Sprout 1 (.node 3 [] s [] []) :=
 ⟨by rw [nodeOk_ne (by simp [T.kind])]; simp [T.kind, T.name, T.text, T.attrs, T.kids]; exact ⟨fun e => by subst e; simp at h, decide_eq_true (by omega)⟩, by simp [T.kind], by simp [T.depth_eq, T.kids], by simp [T.bulk_eq, T.size_eq, T.kids, T.name, T.text, T.attrs]; omega, .node _ _ _ _ _ (by simp) (by simp)⟩
def Leafy (ats : List (Str × Str)) : Prop := attrsOk [] ats = true ∧ ats.length ≤ 2 ∧ (ats.map T.abulk).sum ≤ 8 ∧ ∀ p ∈ ats, p.1 ≠ [122, 122]
theorem leafy_id (d : Str) (h : d.length = 1) : Leafy [([105, 100], d)] := by
 have e1 : nameOk [105, 100] = true := by decide +kernel
 have e2 : Op.bytesLess [105, 100] ([] : Str) = false := by decide +kernel
 refine ⟨?_, by simp, by simp [T.abulk]; omega, by simp⟩
 simp only [attrsOk, e1, e2]; simp; omega
theorem leafy_x (v : Str) (h : v.length ≤ 2) : Leafy [([120], v)] := by
 have e1 : nameOk [120] = true := by decide +kernel
 have e2 : Op.bytesLess [120] ([] : Str) = false := by decide +kernel
 refine ⟨?_, by simp, by simp [T.abulk]; omega, by simp⟩
 simp only [attrsOk, e1, e2]; simp; omega
theorem leafy_both (d v : Str) (h : d.length = 1) (h2 : v.length ≤ 2) : Leafy [([105, 100], d), ([120], v)] := by
 have e1 : nameOk [105, 100] = true := by decide +kernel
 have e2 : Op.bytesLess [105, 100] ([] : Str) = false := by decide +kernel
 have e3 : nameOk [120] = true := by decide +kernel
 have e4 : Op.bytesLess [120] ([105, 100] : Str) = false := by decide +kernel
 refine ⟨?_, by simp, by simp [T.abulk]; omega, by simp⟩
 simp only [attrsOk, e1, e2, e3, e4]; simp; omega
theorem sprout_el {f : Nat} {n : Str} {ats : List (Str × Str)} {us : List T} (hn : nameOk n = true) (hl : n.length ≤ 3) (ha : Leafy ats) (hu : ∀ u ∈ us, Sprout f u) : Sprout (f + 1) (.node 2 n [] ats us) := by
 refine ⟨?_, by simp [T.kind], ?_, ?_, .node _ _ _ _ _ ha.2.2.2 fun u hm => (hu u hm).calm⟩
 ·rw [nodeOk_el rfl]
  have h1 := ha.1
  have h2 := ha.2.1
  have hk : kidsOk (.node 2 n [] ats us) = true := by
   unfold kidsOk
   rw [List.all_eq_true]
   intro u hm
   have := hu u hm
   have h3 := this.kind
   rw [this.ok, decide_eq_false (by omega : ¬ u.kind = 5)]; rfl
  have e1 : nameOk (T.node 2 n [] ats us).name = true := hn
  have e2 : attrsOk [] (T.node 2 n [] ats us).attrs = true := h1
  have e3 : decide ((T.node 2 n [] ats us).attrs.length ≤ 12) = true := decide_eq_true (show ats.length ≤ 12 by omega)
  rw [hk, e1, e2, e3]; rfl
 ·rw [T.depth_eq]
  have : (us.map T.depth).foldr max 0 ≤ f := T.foldr_max_le fun x hx => by
   obtain ⟨u, hm, rfl⟩ := List.mem_map.1 hx
   exact (hu u hm).deep
  simp only [T.kids]; omega
 ·rw [T.bulk_eq, T.size_eq]
  have h1 := ha.2.2.1
  have h2 : (us.map T.bulk).sum ≤ (us.map fun u => 15 * u.size).sum := T.sum_le _ _ us fun u hm => (hu u hm).few
  have h3 : (us.map fun u => 15 * u.size).sum = 15 * (us.map T.size).sum := by
   clear h2 hu
   induction us with
   |nil => rfl
   |cons u r ih => simp only [List.map_cons, List.sum_cons, ih]; omega
  simp only [T.name, T.text, T.attrs, T.kids, List.length_nil]; omega
theorem grown_name (i : Nat) (h : i < 4) : nameOk (([([98] : Str), ([112] : Str), ([100, 105, 118] : Str), ([108, 105] : Str)] : List Str).getD i []) = true ∧ (([([98] : Str), ([112] : Str), ([100, 105, 118] : Str), ([108, 105] : Str)] : List Str).getD i []).length ≤ 3 := by
 have : ∀ i : Fin 4, nameOk (([([98] : Str), ([112] : Str), ([100, 105, 118] : Str), ([108, 105] : Str)] : List Str).getD i.val []) = true ∧ (([([98] : Str), ([112] : Str), ([100, 105, 118] : Str), ([108, 105] : Str)] : List Str).getD i.val []).length ≤ 3 := by decide +kernel
 exact this ⟨i, h⟩
theorem push_attr {A bx : List Nat} {w : World} {s : Sl} {ats : List (Str × Str)} {p : Str × Str} {B : Nat} {S ty : TypeId} {K : Value → World → Prop} (h : Own A w s 2 47 (ats.map ac)) (hA : ∀ b ∈ A, b < w.heap.size) (hB : Box w B S (ac p)) (hl : ats.length + 1 ≤ 1099511627776) (hbx : ∀ b ∈ bx, b ∈ A)
  (k : ∀ s' w', Own A w' s' 2 47 ((ats ++ [p]).map ac) → Chg s.own w w' → (∀ b ∈ s'.blk, b ∈ s.own ∨ w.heap.size ≤ b) → K s'.v w') :
  RunK Try.prog (Builtin.append_ #[23, 23] ty #[s.v, Sl.v (Sl.mk (some ⟨B, 0, none⟩) 1 1)]) w bx K := by
 have hn := h.len
 simp only [List.length_map] at hn
 have hx : Row [] w (Sl.mk (some ⟨B, 0, none⟩) 1 1) 2 [ac p] :=
  ⟨rfl, Nat.le_refl _, by simp [maxLen], fun i hi => by
   have : i = 0 := by simpa using hi
   subst this
   exact ⟨_, rfl, by simp, by rw [Nat.zero_mul, Addr.add_zero']; exact hB.cells, rfl⟩⟩
 exact App.runK Try.underlying23 ti_47 rfl (by decide) (.inl h) hA hx (ones_ac p) (by simp) (by simp only [maxLen, List.length_singleton]; omega) (by simp only [List.length_singleton]; omega) hbx fun s' w' ho hc hb => k s' w' (by simpa using ho) hc hb
theorem lawGrown {l : Sl} {zs : List Int} {Ba Bn : Nat} (hne : Ba ≠ Bn) : ∀ f : Nat, f ≤ 6 → ∀ {w : World} {x n : Nat}, n < 40 → x ≤ n + 1 → Row [Ba, Bn] w l 1 (zs.map ic) → Box w Ba 3 [.int .i64 (x : Int)] → Box w Bn 3 [.int .i64 (n : Int)] →
  Calls Try.prog 26 #[l.v, .pointer (some ⟨Ba, 0, none⟩), .pointer (some ⟨Bn, 0, none⟩), .int .i64 (6 - (f : Int))] w (Ret fun v w' => Chg [Ba, Bn] w w' ∧ ∃ (t : T) (sa sk : Sl) (x' : Nat), v = tv t sa sk ∧ RdT (List.range w.heap.size) w' t sa sk ∧
   Box w' Ba 3 [.int .i64 (x' : Int)] ∧ Box w' Bn 3 [.int .i64 ((n + t.size : Nat) : Int)] ∧ n + t.size ≤ 40 ∧ x' ≤ n + t.size + 1 ∧ Sprout (f + 1) t) := by
 intro f
 induction f with
 |zero =>
  intro _ w x n hn hx hl hBa hBn
  refine law00_grown.ok _ _ _ _ ?_
  unfold law00_grown.vc
  intro w1 B5 hN5 hE1
  have hBn1 := hBn.ext hE1
  have hBa1 := hBa.ext hE1
  have hlt1 := hBa.lt
  have hlt2 := hBn.lt
  have hge := hN5.ge
  refine ⟨(n : Int), hBn1.cell 0 _ rfl, ⟨by omega, by omega⟩, Bn, 0, 3, _, rfl, hBn1, by simp, by simp; omega, fun w2 hC2 hBn2 => ?_⟩
  have hBn2 : Box w2 Bn 3 [.int .i64 ((n + 1 : Nat) : Int)] := hBn2
  have hBa2 := hBa1.keep hC2 (by simpa using hne)
  have hl2 := (hl.ext hE1).chg hC2 (by simp)
  refine CallK.chg (lawNext hl2 (by simp) hBa2 (by omega)) (by simp; omega) fun v w3 hC3 ⟨r, x', hv, hr, hx', hBa3⟩ => ⟨(r : Int), hv, ?_⟩
  have hC : Chg [Ba, Bn] w w3 := ((Chg.ext hE1).more' hC2 (by simp)).more' hC3 (by simp)
  have hBn3 := hBn2.keep hC3 (by simpa using hne.symm)
  have e7 : ((r : Int)).tmod 7 = ((r % 7 : Nat) : Int) := rfl
  have d7 : ((r : Int)).tdiv 7 = ((r / 7 : Nat) : Int) := rfl
  have e74 : (((r / 7 : Nat) : Int)).tmod 4 = ((r / 7 % 4 : Nat) : Int) := rfl
  have e76 : (((r / 7 : Nat) : Int)).tmod 6 = ((r / 7 % 6 : Nat) : Int) := rfl
  simp only [e7, d7, e74, e76, Int.toNat_natCast]
  refine ⟨fun h0 => ⟨⟨by omega, by omega⟩, ⟨by omega, by simp; omega⟩, fun w4 hC4 => ?_⟩, fun h0 => ⟨fun h3 => ⟨⟨by omega, by omega⟩, ⟨by omega, by omega⟩, ⟨by omega, by omega⟩, ⟨by omega, by omega, by simp; omega⟩, fun w4 hC4 => ?_⟩, fun h3 => ?_⟩⟩
  ·have hnot : ∀ b ∈ [B5], w.heap.size ≤ b := by simpa using hge
   refine ⟨hC.more' hC4 (fun b hb => .inr (hnot b hb)), .node 4 [] (List.take (r / 7 % 4) [120, 121, 122]) [] [], Sl.nil, Sl.nil, x', rfl, RdT.nil _ _ _ _ _, hBa3.keep hC4 (by simp; omega), ?_, ?_, ?_, (sprout_comment _ (by simp; omega)).up (by omega)⟩
   ·have := hBn3.keep hC4 (by simp; omega)
    simpa [T.size_eq, T.kids] using this
   ·simp [T.size_eq, T.kids]; omega
   ·simp [T.size_eq, T.kids]; omega
  ·have hnot : ∀ b ∈ [B5], w.heap.size ≤ b := by simpa using hge
   refine ⟨hC.more' hC4 (fun b hb => .inr (hnot b hb)), .node 3 [] _ [] [], Sl.nil, Sl.nil, x', rfl, RdT.nil _ _ _ _ _, hBa3.keep hC4 (by simp; omega), ?_, ?_, ?_, (sprout_text _ (by simp; omega)).up (by omega)⟩
   ·have := hBn3.keep hC4 (by simp; omega)
    simpa [T.size_eq, T.kids] using this
   ·simp [T.size_eq, T.kids]; omega
   ·simp [T.size_eq, T.kids]; omega
  ·omega
 |succ f ih =>
  intro hf w x n hn hx hl hBa hBn
  refine law00_grown.ok _ _ _ _ ?_
  unfold law00_grown.vc
  intro w1 B5 hN5 hE1
  have hBn1 := hBn.ext hE1
  have hBa1 := hBa.ext hE1
  have hlt1 := hBa.lt
  have hlt2 := hBn.lt
  have hge := hN5.ge
  refine ⟨(n : Int), hBn1.cell 0 _ rfl, ⟨by omega, by omega⟩, Bn, 0, 3, _, rfl, hBn1, by simp, by simp; omega, fun w2 hC2 hBn2 => ?_⟩
  have hBn2 : Box w2 Bn 3 [.int .i64 ((n + 1 : Nat) : Int)] := hBn2
  have hBa2 := hBa1.keep hC2 (by simpa using hne)
  have hl2 := (hl.ext hE1).chg hC2 (by simp)
  refine CallK.chg (lawNext hl2 (by simp) hBa2 (by omega)) (by simp; omega) fun v w3 hC3 ⟨r, x', hv, hr, hx', hBa3⟩ => ⟨(r : Int), hv, ?_⟩
  have hC : Chg [Ba, Bn] w w3 := ((Chg.ext hE1).more' hC2 (by simp)).more' hC3 (by simp)
  have hBn3 := hBn2.keep hC3 (by simpa using hne.symm)
  have hl3 := hl2.chg hC3 (by simp)
  have e7 : ((r : Int)).tmod 7 = ((r % 7 : Nat) : Int) := rfl
  have d7 : ((r : Int)).tdiv 7 = ((r / 7 : Nat) : Int) := rfl
  have d28 : ((r : Int)).tdiv 28 = ((r / 28 : Nat) : Int) := rfl
  have d84 : ((r : Int)).tdiv 84 = ((r / 84 : Nat) : Int) := rfl
  have d512 : ((r : Int)).tdiv 512 = ((r / 512 : Nat) : Int) := rfl
  have e74 : (((r / 7 : Nat) : Int)).tmod 4 = ((r / 7 % 4 : Nat) : Int) := rfl
  have e76 : (((r / 7 : Nat) : Int)).tmod 6 = ((r / 7 % 6 : Nat) : Int) := rfl
  have e283 : (((r / 28 : Nat) : Int)).tmod 3 = ((r / 28 % 3 : Nat) : Int) := rfl
  have e285 : (((r / 28 : Nat) : Int)).tmod 5 = ((r / 28 % 5 : Nat) : Int) := rfl
  have e844 : (((r / 84 : Nat) : Int)).tmod 4 = ((r / 84 % 4 : Nat) : Int) := rfl
  have e843 : (((r / 84 : Nat) : Int)).tmod 3 = ((r / 84 % 3 : Nat) : Int) := rfl
  have e5124 : (((r / 512 : Nat) : Int)).tmod 4 = ((r / 512 % 4 : Nat) : Int) := rfl
  simp only [e7, d7, d28, d84, d512, e74, e76, e283, e285, e844, e843, e5124, Int.toNat_natCast]
  have hnot : ∀ b ∈ [B5], w.heap.size ≤ b := by simpa using hge
  refine ⟨fun h0 => ⟨⟨by omega, by omega⟩, ⟨by omega, by simp; omega⟩, fun w4 hC4 => ?_⟩, fun h0 => ⟨fun h3 => ⟨⟨by omega, by omega⟩, ⟨by omega, by omega⟩, ⟨by omega, by omega⟩, ⟨by omega, by omega, by simp; omega⟩, fun w4 hC4 => ?_⟩, fun h3 => ⟨⟨by omega, by omega⟩, ⟨by omega, by omega⟩, ⟨by omega, by omega⟩, fun w4 B124 hN4 hE4 => ?_⟩⟩⟩
  ·refine ⟨hC.more' hC4 (fun b hb => .inr (hnot b hb)), .node 4 [] (List.take (r / 7 % 4) [120, 121, 122]) [] [], Sl.nil, Sl.nil, x', rfl, RdT.nil _ _ _ _ _, hBa3.keep hC4 (by simp; omega), ?_, ?_, ?_, (sprout_comment _ (by simp; omega)).up (by omega)⟩
   ·have := hBn3.keep hC4 (by simp; omega)
    simpa [T.size_eq, T.kids] using this
   ·simp [T.size_eq, T.kids]; omega
   ·simp [T.size_eq, T.kids]; omega
  ·refine ⟨hC.more' hC4 (fun b hb => .inr (hnot b hb)), .node 3 [] _ [] [], Sl.nil, Sl.nil, x', rfl, RdT.nil _ _ _ _ _, hBa3.keep hC4 (by simp; omega), ?_, ?_, ?_, (sprout_text _ (by simp; omega)).up (by omega)⟩
   ·have := hBn3.keep hC4 (by simp; omega)
    simpa [T.size_eq, T.kids] using this
   ·simp [T.size_eq, T.kids]; omega
   ·simp [T.size_eq, T.kids]; omega
  ·-- an element
   have hsz : w.heap.size ≤ w3.heap.size := hC.size
   have hsz4 : w3.heap.size ≤ w4.heap.size := hE4.size
   have hB124 := hN4.ge
   have hB124' := hN4.lt
   have hB5' : B5 < w4.heap.size := by have := hN5.lt; have := hC2.size; have := hC3.size; omega
   have hC4 : Chg [Ba, Bn] w w4 := hC.trans (Chg.ext hE4)
   have hl4 := hl3.ext hE4
   -- what holds while the attributes are put together
   let St : World → Prop := fun w' => Chg [Ba, Bn] w w' ∧ Row [Ba, Bn] w' l 1 (zs.map ic) ∧ Box w' Ba 3 [.int .i64 (x' : Int)] ∧ Box w' Bn 3 [.int .i64 ((n + 1 : Nat) : Int)] ∧ w4.heap.size ≤ w'.heap.size
   have hSt4 : St w4 := ⟨hC4, hl4, hBa3.ext hE4, hBn3.ext hE4, Nat.le_refl _⟩
   have hStep : ∀ {wa wb : World} {F : List Nat}, St wa → Chg F wa wb → (∀ b ∈ F, b = B124 ∨ w4.heap.size ≤ b) → St wb := fun {wa wb F} ⟨h1, h2, h3, h4, h5⟩ c hF => by
    have hF' : ∀ b ∈ F, w.heap.size ≤ b := fun b hb => by rcases hF b hb with rfl | h <;> omega
    refine ⟨h1.more' c (fun b hb => .inr (hF' b hb)), ?_, h3.keep c (fun hm => by have := hF' _ hm; omega), h4.keep c (fun hm => by have := hF' _ hm; omega), Nat.le_trans h5 c.size⟩
    have hlw : Row (F ++ [Ba, Bn]) wa l 1 (zs.map ic) := by
     have hlw0 : ∀ L : List Nat, (∀ b ∈ L, w.heap.size ≤ b) → Row (L ++ [Ba, Bn]) w l 1 (zs.map ic) := fun L => by
      induction L with
      |nil => intro _; exact hl
      |cons b L ihL => intro hL; exact (ihL (fun b hb => hL b (List.mem_cons_of_mem _ hb))).fresh (by decide) (hL b (List.mem_cons_self ..))
     exact (hlw0 F hF').chg h1 (fun b hb => List.mem_append_right _ hb)
    exact (hlw.chg c (fun b hb => List.mem_append_left _ hb)).less (fun b hb => List.mem_append_right _ hb)
   have hA4 : ∀ {w' : World}, w4.heap.size ≤ w'.heap.size → ∀ b ∈ List.range w4.heap.size, b < w'.heap.size := fun h b hb => by have := List.mem_range.1 hb; omega
   have hfr : ∀ {s : Sl} {w' : World} {vs : List (List Value)} {k : Nat} {S : TypeId}, Own (List.range w4.heap.size) w' s k S vs → ∀ b ∈ s.own, b = B124 ∨ w4.heap.size ≤ b := fun h b hb => .inr (by have := h.tail b hb; simp at this; omega)
   have hbx : ∀ b ∈ [B5, B124], b ∈ List.range w4.heap.size := by
    intro b hb; simp at hb
    rcases hb with rfl | rfl
    ·exact List.mem_range.2 hB5'
    ·exact List.mem_range.2 hB124'
   refine ⟨fun c w' => St w' ∧ ∃ ats : List (Str × Str), Own (List.range w4.heap.size) w' c 2 47 (ats.map ac) ∧ (ats = [] ∨ ∃ d : Str, d.length = 1 ∧ ats = [([105, 100], d)]),
    ⟨fun hz w5 hE5 => ⟨⟨by omega, by omega⟩, ⟨by omega, by omega⟩, ⟨by omega, by omega⟩, ⟨by omega, by omega, by simp; omega⟩, fun w6 B6 hE6 hB6 hbox _ => ?_⟩, fun hz => ⟨hSt4, [], Own.nil _ _ _ _, .inl rfl⟩⟩, ?_⟩
   ·have hE46 : Ext w4 w6 := hE5.trans hE6
    refine push_attr (ats := []) (Own.nil _ _ _ _) (hA4 hE46.size) hbox (by simp) hbx fun s' w7 ho hc hb => ⟨s', rfl, fun w8 hC8 => ⟨hStep (hStep (hStep hSt4 hE46 (by simp)) hc (by simp [Sl.own])) hC8 (by simp), _, ho.chg hC8 (by intro b hb; simp at hb; subst hb; exact List.mem_range.2 hB124'), .inr ⟨_, ?_, rfl⟩⟩⟩
    simp; omega
   rintro c w5 ⟨hS5, ats, ho5, hats⟩
   refine ⟨⟨by omega, by omega⟩, fun c w' => St w' ∧ ∃ ats : List (Str × Str), Own (List.range w4.heap.size) w' c 2 47 (ats.map ac) ∧ Leafy ats,
    ⟨fun hz w6 hE6 => ⟨⟨by omega, by omega⟩, ⟨by omega, by simp; omega⟩, fun w7 B7 hE7 hB7 hbox _ => ?_⟩, fun hz => ⟨hS5, ats, ho5, ?_⟩⟩, ?_⟩
   ·have hE57 : Ext w5 w7 := hE6.trans hE7
    have ho7 := ho5.ext hE57
    have hS7 := hStep hS5 hE57 (by simp)
    refine push_attr (p := ([120], List.take (r / 84 % 3) ([117, 118] : Str))) ho7 (hA4 hS7.2.2.2.2) hbox (by rcases hats with rfl | ⟨d, _, rfl⟩ <;> simp) hbx fun s' w8 ho hc hb => ⟨s', rfl, fun w9 hC9 => ⟨hStep (hStep hS7 hc (hfr ho7)) hC9 (by simp), _, ho.chg hC9 (by intro b hb; simp at hb; subst hb; exact List.mem_range.2 hB124'), ?_⟩⟩
    have hv : (List.take (r / 84 % 3) ([117, 118] : Str)).length ≤ 2 := by simp; omega
    rcases hats with rfl | ⟨d, hd, rfl⟩
    ·exact leafy_x _ hv
    ·exact leafy_both d _ hd hv
   ·rcases hats with rfl | ⟨d, hd, rfl⟩
    ·exact ⟨rfl, by simp, by simp, by simp⟩
    ·exact leafy_id d hd
   rintro cA w6 ⟨hS6, ats, ho6, hleafy⟩
   have hblk6 : ∀ b ∈ cA.blk, b < w6.heap.size ∧ w4.heap.size ≤ b := fun b hb => by
    have := ho6.blk b hb
    have h2 := this.1; simp at h2; omega
   -- the kids
   have hF6 : ∀ {F : List Nat}, (∀ b ∈ F, w.heap.size ≤ b) → ∀ b ∈ F, b ∉ [Ba, Bn] := fun hF b hb hm => by
    have := hF b hb; simp at hm; rcases hm with rfl | rfl <;> omega
   have hlF : ∀ L : List Nat, (∀ b ∈ L, w.heap.size ≤ b) → Row (L ++ [Ba, Bn]) w l 1 (zs.map ic) := fun L => by
    induction L with
    |nil => intro _; exact hl
    |cons b L ihL => intro hL; exact (ihL (fun b hb => hL b (List.mem_cons_of_mem _ hb))).fresh (by decide) (hL b (List.mem_cons_self ..))
   have hlW : ∀ {w' : World}, Chg [Ba, Bn] w w' → Row [Ba, Bn] w' l 1 (zs.map ic) := fun c => hl.chg c (by simp)
   have hs6 := hS6.2.2.2.2
   refine ⟨⟨by omega, by omega⟩, fun k c w' => k ≤ 3 ∧ Chg [Ba, Bn] w w' ∧ w6.heap.size ≤ w'.heap.size ∧ Own (List.range w4.heap.size) w' cA 2 47 (ats.map ac) ∧ ∃ (us : List T) (xk : Nat), Nur (cA.blk ++ List.range w4.heap.size) w' c us ∧ (∀ u ∈ us, Sprout (f + 1) u) ∧
     Box w' Ba 3 [.int .i64 (xk : Int)] ∧ Box w' Bn 3 [.int .i64 ((n + 1 + (us.map T.size).sum : Nat) : Int)] ∧ n + 1 + (us.map T.size).sum ≤ 40 ∧ xk ≤ n + 1 + (us.map T.size).sum + 1,
    fun k _ _ => k.toNat, ⟨by omega, hS6.1, Nat.le_refl _, ho6, [], x', Nur.nil _ _, by simp, hS6.2.2.1, by simpa using hS6.2.2.2.1, by simp; omega, by simp; omega⟩, ?_⟩
   rintro k c w7 ⟨hk3, hC7, hsz7, ho7, us, xk, hNur, hus, hBa7, hBn7, hn7, hx7⟩
   have hcb : ∀ b ∈ c.blk, w4.heap.size ≤ b ∧ b < w7.heap.size ∧ b ∉ cA.blk := fun b hb => by
    have h := hNur.own.2.2.2 b hb
    have h1 := h.1
    simp at h1; exact ⟨by omega, h.2, h1.1⟩
   refine ⟨((n + 1 + (us.map T.size).sum : Nat) : Int), fun _ => hBn7.cell 0 _ rfl, fun ⟨hk0, hk40⟩ w8 hE8 => ⟨⟨by omega, by omega⟩, ?_⟩, fun hstop w8 hC8 => ?_⟩
   ·have hC8 := hC7.more' hE8 (by simp)
    have hcall := ih (by omega) (w := w8) (x := xk) (n := n + 1 + (us.map T.size).sum) (by omega) (by omega) (hlW hC8) (hBa7.ext hE8) (hBn7.ext hE8)
    rw [show (6 : Int) - ((f + 1 : Nat) : Int) + 1 = 6 - (f : Int) by omega]
    have hsz8 := hE8.size
    refine CallK.chg hcall (by simp; omega) ?_
    rintro v w9 hC9 ⟨u, su, sku, xu, rfl, hru, hBa9, hBn9, hn9, hx9, hspr⟩
    refine ⟨_, _, _, su, sku, rfl, fun w10 B10 hE10 hB10 hbox10 w11 hE11 hbox11 => ?_⟩
    have hE911 : Ext w9 w11 := hE10.trans hE11
    have hAN : ∀ b ∈ [Ba, Bn], b ∈ cA.blk ++ List.range w4.heap.size := fun b hb => List.mem_append_right _ (List.mem_range.2 (by simp at hb; rcases hb with rfl | rfl <;> omega))
    have hNur11 := ((hNur.ext hE8).chg hC9 hAN).ext hE911
    have hsz9 := hC9.size
    have hsz11 := hE911.size
    have ho11 := ((ho7.ext hE8).chg hC9 (fun b hb => (List.mem_range.2 (by simp at hb; rcases hb with rfl | rfl <;> omega)))).ext hE911
    have hC11 : Chg [Ba, Bn] w w11 := (hC8.trans hC9).more' hE911 (by simp)
    refine hNur11.push (fun b hb => ?_) hbox11 ((hru.ext hE911).less fun b hb => List.mem_range.2 ?_) ?_ (fun b hb => List.mem_append_right _ (hbx b hb)) fun s' w12 hN12 hC12 hbl => ⟨s', rfl, ⟨by omega, by omega⟩, fun w13 hC13 => ?_⟩
    ·rcases List.mem_append.1 hb with hb | hb
     ·have := hblk6 b hb; omega
     ·have := List.mem_range.1 hb; omega
    ·rcases List.mem_append.1 hb with hb | hb
     ·have := hcb b hb; omega
     ·rcases List.mem_append.1 hb with hb | hb
      ·have := hblk6 b hb; omega
      ·have := List.mem_range.1 hb; omega
    ·have h1 : (us.map fun _ => 1).sum ≤ (us.map T.size).sum := T.sum_le _ _ us fun u _ => by rw [T.size_eq]; omega
     have h2 : ∀ l : List T, (l.map fun _ => 1).sum = l.length := fun l => by induction l with
      |nil => rfl
      |cons a r ih => simp only [List.map_cons, List.sum_cons, ih, List.length_cons]; omega
     rw [h2] at h1; omega
    ·have hown : ∀ b ∈ c.own, w.heap.size ≤ b := fun b hb => by have := hcb b (Sl.own_blk hb); omega
     have h124 : ∀ b ∈ [B124], w.heap.size ≤ b := by simp; omega
     have n1 := hF6 hown
     have n2 := hF6 h124
     have hsz12 := hC12.size
     have hsz13 := hC13.size
     have es : ((us ++ [u]).map T.size).sum = (us.map T.size).sum + u.size := by simp
     refine ⟨⟨by omega, (hC11.more' hC12 (fun b hb => .inr (hown b hb))).more' hC13 (fun b hb => .inr (h124 b hb)), by omega, (ho11.keep hC12 (fun b hb hm => (hcb b (Sl.own_blk hm)).2.2 hb)).chg hC13 (fun b hb => hbx b (by simp at hb; simp [hb])), us ++ [u], xu, hN12.chg hC13 (fun b hb => List.mem_append_right _ (hbx b (by simp at hb; simp [hb]))), fun y hy => ?_, ((hBa9.ext hE911).keep hC12 (fun hm => n1 _ hm (by simp))).keep hC13 (fun hm => n2 _ hm (by simp)), ?_, by rw [es]; omega, by rw [es]; omega⟩, by dsimp only; omega⟩
     ·rcases List.mem_append.1 hy with hy | hy
      ·exact hus y hy
      ·simp at hy; subst hy; exact hspr
     ·have := ((hBn9.ext hE911).keep hC12 (fun hm => n1 _ hm (by simp))).keep hC13 (fun hm => n2 _ hm (by simp))
      rw [es, ← Nat.add_assoc]; exact this
   ·have h5 : ∀ b ∈ [B5], w.heap.size ≤ b := by simp; omega
    have n5 := hF6 h5
    have hnm := grown_name (r / 7 % 4) (by omega)
    have hb5 : ∀ b ∈ [B5], b ∈ List.range w4.heap.size := fun b hb => hbx b (by simp at hb; simp [hb])
    have hrd := ((hNur.less (A' := List.range w4.heap.size) (fun b hb => List.mem_append_right _ hb)).chg hC8 hb5).rd (k := 2) (n := ([([98] : Str), ([112] : Str), ([100, 105, 118] : Str), ([108, 105] : Str)] : List Str).getD (r / 7 % 4) []) (x := []) (ho7.chg hC8 hb5).row
    have es : ∀ nm : Str, (T.node 2 nm [] ats us).size = 1 + (us.map T.size).sum := fun nm => by rw [T.size_eq]; rfl
    refine ⟨hC7.more' hC8 (fun b hb => .inr (h5 b hb)), .node 2 _ [] ats us, cA, c, xk, rfl, hrd.less (fun b hb => List.mem_range.2 (by have := List.mem_range.1 hb; omega)), hBa7.keep hC8 (fun hm => n5 _ hm (by simp)), ?_, ?_, ?_, sprout_el hnm.1 hnm.2 hleafy hus⟩
    ·have := hBn7.keep hC8 (fun hm => n5 _ hm (by simp))
     rw [es, ← Nat.add_assoc]; exact this
    ·rw [es]; omega
    ·rw [es]; omega
end
section
open Go.RowKit
theorem len_sizes (us : List T) : us.length ≤ (us.map T.size).sum := by
 have h1 : (us.map fun _ => 1).sum ≤ (us.map T.size).sum := T.sum_le _ _ us fun u _ => by rw [T.size_eq]; omega
 have h2 : ∀ l : List T, (l.map fun _ => 1).sum = l.length := fun l => by induction l with
  |nil => rfl
  |cons a r ih => simp only [List.map_cons, List.sum_cons, ih, List.length_cons]; omega
 rw [h2] at h1; exact h1
structure Grove (us : List T) : Prop where
 ne : us ≠ []
 each : ∀ u ∈ us, Sprout 6 u
 few : (us.map T.size).sum ≤ 40
def grownT (us : List T) : T := .node 1 [] [] [] us
theorem Grove.bulk {us : List T} (h : Grove us) : (grownT us).bulk ≤ 601 := by
 have h2 : (us.map T.bulk).sum ≤ (us.map fun u => 15 * u.size).sum := T.sum_le _ _ us fun u hm => (h.each u hm).few
 have h3 : (us.map fun u => 15 * u.size).sum = 15 * (us.map T.size).sum := by
  have key : ∀ l : List T, (l.map fun u => 15 * u.size).sum = 15 * (l.map T.size).sum := fun l => by induction l with
   |nil => rfl
   |cons u r ih => simp only [List.map_cons, List.sum_cons, ih]; omega
  exact key us
 have h4 := h.few
 rw [T.bulk_eq]
 simp only [grownT, T.name, T.text, T.attrs, T.kids, List.length_nil, List.map_nil, List.sum_nil]; omega
theorem Grove.check {us : List T} (h : Grove us) : (grownT us).check = true := by
 have hs : (grownT us).size ≤ 41 := by rw [T.size_eq]; have := h.few; simp only [grownT, T.kids]; omega
 have hd : (grownT us).depth ≤ 7 := by
  rw [T.depth_eq]
  have : ((grownT us).kids.map T.depth).foldr max 0 ≤ 6 := T.foldr_max_le fun x hx => by
   obtain ⟨u, hm, rfl⟩ := List.mem_map.1 hx
   exact (h.each u hm).deep
  omega
 have hk : kidsOk (grownT us) = true := by
  unfold kidsOk
  rw [List.all_eq_true]
  intro u hm
  have := h.each u hm
  have h3 := this.kind
  rw [this.ok, decide_eq_false (by omega : ¬ u.kind = 5)]; rfl
 unfold T.check
 rw [hk, decide_eq_true (show (grownT us).size ≤ 300 by omega), decide_eq_true (show (grownT us).depth ≤ 60 by omega)]; rfl
theorem lawGrownT {w : World} {l : Sl} {zs : List Int} (hl : Row [] w l 1 (zs.map ic)) :
  Calls Try.prog 8 #[l.v] w (Ret fun v w' => Ext w w' ∧ ∃ (us : List T) (sk : Sl), v = tv (grownT us) Sl.nil sk ∧ Nur (List.range w.heap.size) w' sk us ∧ Grove us) := by
 refine law00_Grown.ok _ ?_
 unfold law00_Grown.vc
 intro w1 B2 Ba Bn B60 hN2 hNa hNn hN60 n1 n2 n3 n4 n5 n6 hE1 hBa1
 have g2 := hN2.ge
 have ga := hNa.ge
 have gn := hNn.ge
 have g60 := hN60.ge
 have l2 := hN2.lt
 have la := hNa.lt
 have ln := hNn.lt
 have l60 := hN60.lt
 have hl0 : Row [Ba, Bn] w l 1 (zs.map ic) := (hl.fresh (by decide) gn).fresh (by decide) ga
 refine CallK.chg (lawNext (x := 0) (hl0.ext hE1) (by simp) hBa1 (by omega)) (by simp; omega) fun v w2 hC2 ⟨r, x', hv, hr, hx', hBa2⟩ => ⟨(r : Int), hv, fun hBn2 => ?_⟩
 have e4 : ((r : Int)).tmod 4 = ((r % 4 : Nat) : Int) := rfl
 rw [e4]
 have hF : ∀ b ∈ [Ba, Bn], w.heap.size ≤ b := by simp; omega
 have hC12 : Chg [Ba, Bn] w w2 := (Chg.ext hE1).more' hC2 (by simp)
 have hsz2 := hC2.size
 have hsz12 := hE1.size
 refine ⟨fun k c w' => -1 ≤ k ∧ k ≤ 3 ∧ Chg [Ba, Bn] w w' ∧ w2.heap.size ≤ w'.heap.size ∧ ∃ (us : List T) (xk : Nat), (us = [] → 0 ≤ k) ∧ Nur (List.range w1.heap.size) w' c us ∧ (∀ u ∈ us, Sprout 6 u) ∧
     Box w' Ba 3 [.int .i64 (xk : Int)] ∧ Box w' Bn 3 [.int .i64 (((us.map T.size).sum : Nat) : Int)] ∧ (us.map T.size).sum ≤ 40 ∧ xk ≤ (us.map T.size).sum + 1,
    fun k _ _ => (k + 1).toNat, ⟨by omega, by omega, hC12, Nat.le_refl _, [], x', fun _ => by omega, Nur.nil _ _, by simp, hBa2, hBn2, by simp, by simp; omega⟩, ?_⟩
 rintro k c w3 ⟨hk1, hk3, hC3, hsz3, us, xk, hke, hNur, hus, hBa3, hBn3, hn3, hx3⟩
 have hcb : ∀ b ∈ c.blk, w1.heap.size ≤ b ∧ b < w3.heap.size := fun b hb => by
  have h := hNur.own.2.2.2 b hb
  have h1 := h.1
  simp at h1; omega
 refine ⟨(((us.map T.size).sum : Nat) : Int), fun _ => hBn3.cell 0 _ rfl, fun ⟨hk0, hk40⟩ w4 hE4 => ?_, fun hstop w4 hC4 => ?_⟩
 ·have hC4 := hC3.more' hE4 (by simp)
  have hcall := lawGrown n4 5 (by omega) (w := w4) (x := xk) (n := (us.map T.size).sum) (by omega) (by omega) (hl0.chg hC4 (by simp)) (hBa3.ext hE4) (hBn3.ext hE4)
  have hsz4 := hE4.size
  refine CallK.chg hcall (by simp; omega) ?_
  rintro v w5 hC5 ⟨u, su, sku, xu, rfl, hru, hBa5, hBn5, hn5, hx5, hspr⟩
  refine ⟨_, _, _, su, sku, rfl, fun w6 B6 hE6 hB6 hbox6 w7 hE7 hbox7 => ?_⟩
  have hE57 : Ext w5 w7 := hE6.trans hE7
  have hsz5 := hC5.size
  have hsz7 := hE57.size
  have hNur7 := ((hNur.ext hE4).chg hC5 (fun b hb => List.mem_range.2 (by simp at hb; rcases hb with rfl | rfl <;> omega))).ext hE57
  have hC7 : Chg [Ba, Bn] w w7 := (hC4.trans hC5).more' hE57 (by simp)
  refine hNur7.push (fun b hb => by have := List.mem_range.1 hb; omega) hbox7 ((hru.ext hE57).less fun b hb => List.mem_range.2 ?_) ?_ (fun b hb => List.mem_range.2 (by simp at hb; rcases hb with rfl | rfl <;> omega)) fun s' w8 hN8 hC8 hbl => ⟨s', rfl, ⟨by omega, by omega⟩, fun w9 hC9 => ?_⟩
  ·rcases List.mem_append.1 hb with hb | hb
   ·have := hcb b hb; omega
   ·have := List.mem_range.1 hb; omega
  ·have := len_sizes us; omega
  ·have hown : ∀ b ∈ c.own, w1.heap.size ≤ b := fun b hb => (hcb b (Sl.own_blk hb)).1
   have hsz8 := hC8.size
   have hsz9 := hC9.size
   have es : ((us ++ [u]).map T.size).sum = (us.map T.size).sum + u.size := by simp
   have q1 : ∀ b ∈ [Ba, Bn], b ∉ c.own := fun b hb hm => by have := hown b hm; simp at hb; rcases hb with rfl | rfl <;> omega
   have q2 : ∀ b ∈ [Ba, Bn], b ∉ [B60] := fun b hb hm => by simp at hb hm; rcases hb with rfl | rfl <;> omega
   refine ⟨⟨by omega, by omega, (hC7.more' hC8 (fun b hb => .inr (by have := hown b hb; omega))).more' hC9 (by simp; omega), by omega, us ++ [u], xu, by simp, hN8.chg hC9 (by simpa using l60), fun y hy => ?_, ((hBa5.ext hE57).keep hC8 (q1 _ (by simp))).keep hC9 (q2 _ (by simp)), ?_, by rw [es]; omega, by rw [es]; omega⟩, by dsimp only; omega⟩
   ·rcases List.mem_append.1 hy with hy | hy
    ·exact hus y hy
    ·simp at hy; subst hy; exact hspr
   ·have := ((hBn5.ext hE57).keep hC8 (q1 _ (by simp))).keep hC9 (q2 _ (by simp))
    rw [es]; exact this
 ·refine ⟨Chg.fresh (Chg.fresh (Chg.refl [] w) hC3 hF) hC4 (by simpa using g2), us, c, rfl, (hNur.chg hC4 (by simpa using l2)).less (fun b hb => List.mem_range.2 (by have := List.mem_range.1 hb; omega)), ?_, hus, hn3⟩
  rintro rfl
  have := hke rfl
  rcases hstop with h | h
  ·omega
  ·simp at h
end
section
open Go.RowKit
theorem putAt_right (us : List Value) : ∀ (l m : List Value) (o : Nat), putAt (l ++ m) (l.length + o) us = l ++ putAt m o us := by
 induction us with
 |nil => intro l m o; rfl
 |cons u us ih =>
  intro l m o
  rw [putAt, putAt, List.set_append_right _ _ (by omega), show l.length + o - l.length = o by omega, Nat.add_assoc, ih]
theorem putAt_left (us : List Value) : ∀ (v m : List Value) (o : Nat), o + us.length ≤ v.length → putAt (v ++ m) o us = putAt v o us ++ m := by
 induction us with
 |nil => intro v m o _; rfl
 |cons u us ih =>
  intro v m o h
  simp only [List.length_cons] at h
  rw [putAt, putAt, List.set_append_left _ _ (by omega), ih _ _ _ (by simp; omega)]
theorem putAt_len (us : List Value) : ∀ (v : List Value) (o : Nat), (putAt v o us).length = v.length := by
 induction us with
 |nil => intro v o; rfl
 |cons u us ih => intro v o; rw [putAt, ih, List.length_set]
theorem Own.put {A : List Nat} {w w' : World} {s : Sl} {size g o j : Nat} {T : TypeId} {vs : List (List Value)} {cur us : List Value} (h : Own A w s size T vs) (ha : s.a = some ⟨g, 0, none⟩) (hb : Box w g T cur) (hj : j < vs.length) (ho : o + us.length ≤ size) (hb' : Box w' g T (putAt cur (j * size + o) us)) :
  Own A w' s size T (vs.set j (putAt (vs.getD j []) o us)) := by
 have hl := h.len
 have hv : (vs.getD j []).length = size := h.each _ (by rw [List.getD_eq_getElem?_getD, List.getElem?_eq_getElem hj]; exact List.getElem_mem hj)
 refine ⟨by rw [List.length_set]; exact hl, h.cap, h.most, fun u hu => ?_, .inr ⟨g, putAt cur (j * size + o) us, ha, ?_, hb', ?_, ?_⟩⟩
 ·rcases List.mem_or_eq_of_mem_set hu with hu | hu
  ·exact h.each u hu
  ·rw [hu, putAt_len]; exact hv
 ·rcases h.at_ with e | ⟨g', cur', h1, h2, _⟩
  ·rw [e] at ha; cases ha
  ·rw [ha] at h1; cases h1; exact h2
 all_goals
  rcases h.at_ with e | ⟨g', cur', h1, h2, h3, h4, h5⟩
  ·rw [e] at ha; cases ha
  ·rw [ha] at h1
   cases h1
   have e : cur = cur' := by unfold Box at hb h3; rw [hb] at h3; simpa using h3
   subst e
   first
   |rw [putAt_len]; exact h4
   |have hsplit : vs = vs.take j ++ vs.getD j [] :: vs.drop (j + 1) := by
     rw [List.getD_eq_getElem?_getD, List.getElem?_eq_getElem hj]
     exact (List.take_append_drop j vs).symm.trans (by rw [List.drop_eq_getElem_cons hj]; rfl)
    have hset : vs.set j (putAt (vs.getD j []) o us) = vs.take j ++ putAt (vs.getD j []) o us :: vs.drop (j + 1) := by
     rw [List.set_eq_take_append_cons_drop, if_pos hj]
    have hcur : cur = vs.flatten ++ cur.drop (s.n * size) := by rw [← h5, List.take_append_drop]
    have hjl : (vs.take j).flatten.length = j * size := by
     rw [flatten_len (vs.take j) (fun u hu => h.each u (List.mem_of_mem_take hu)), List.length_take, Nat.min_eq_left (by omega)]
    have hfl : vs.flatten = (vs.take j).flatten ++ (vs.getD j [] ++ (vs.drop (j + 1)).flatten) := by
     conv => lhs; rw [hsplit]
     rw [List.flatten_append, List.flatten_cons]
    have hlen : vs.flatten.length = s.n * size := by rw [flatten_len vs h.each, hl]
    have e1 : cur = (vs.take j).flatten ++ (vs.getD j [] ++ ((vs.drop (j + 1)).flatten ++ cur.drop (s.n * size))) := by
     conv => lhs; rw [hcur, hfl]
     simp only [List.append_assoc]
    have e2 : putAt cur (j * size + o) us = (vs.take j).flatten ++ (putAt (vs.getD j []) o us ++ ((vs.drop (j + 1)).flatten ++ cur.drop (s.n * size))) := by
     conv => lhs; rw [e1]
     rw [← hjl, putAt_right, putAt_left _ _ _ _ (by omega)]
    generalize cur.drop (s.n * size) = rest at e2
    rw [e2, hset, List.flatten_append, List.flatten_cons]
    have e3 : ((vs.take j).flatten ++ (putAt (vs.getD j []) o us ++ (vs.drop (j + 1)).flatten)).length = s.n * size := by
     rw [← hlen, hfl]; simp only [List.length_append, putAt_len]
    have e4 : (vs.take j).flatten ++ (putAt (vs.getD j []) o us ++ ((vs.drop (j + 1)).flatten ++ rest)) = ((vs.take j).flatten ++ (putAt (vs.getD j []) o us ++ (vs.drop (j + 1)).flatten)) ++ rest := by simp only [List.append_assoc]
    rw [← e3, e4, List.take_left]
end
section
open Go.RowKit
theorem Own.pre {A : List Nat} {w : World} {s : Sl} {size : Nat} {T : TypeId} {vs : List (List Value)} (h : Own A w s size T vs) {k : Nat} (hk : k ≤ vs.length) (hne : s ≠ Sl.nil) : Own A w (s.cut size 0 k s.c) size T (vs.take k) := by
 have hl := h.len
 have hc := h.cap
 have ha : (s.cut size 0 k s.c).a = s.a := by
  simp only [Sl.cut, Nat.zero_mul]
  split
  ·rfl
  ·cases s.a with
   |none => rfl
   |some p => simp [Addr.add_zero']
 refine ⟨by simp [Sl.cut]; omega, by simp [Sl.cut]; omega, by have := h.most; simp [Sl.cut]; omega, fun u hu => h.each u (List.mem_of_mem_take hu), .inr ?_⟩
 rcases h.at_ with e | ⟨g, cur, h1, h2, h3, h4, h5⟩
 ·exact absurd e hne
 ·refine ⟨g, cur, by rw [ha, h1], h2, h3, by simpa [Sl.cut] using h4, ?_⟩
  have hsplit : vs.flatten = (vs.take k).flatten ++ (vs.drop k).flatten := by rw [← List.flatten_append, List.take_append_drop]
  have hlen : (vs.take k).flatten.length = k * size := by
   rw [flatten_len _ (fun u hu => h.each u (List.mem_of_mem_take hu)), List.length_take, Nat.min_eq_left hk]
  have : cur.take (k * size) = (cur.take (s.n * size)).take (k * size) := by
   rw [List.take_take, Nat.min_eq_left (Nat.mul_le_mul_right _ (by omega))]
  simp only [Sl.cut, Nat.sub_zero]
  rw [this, h5, hsplit, ← hlen, List.take_left]
theorem Own.one {A : List Nat} {w : World} {B : Nat} {S : TypeId} {cs : List Value} (h : Box w B S cs) (hA : B ∉ A) : Own A w (Sl.mk (some ⟨B, 0, none⟩) 1 1) cs.length S [cs] :=
 ⟨rfl, Nat.le_refl _, by simp [maxLen], by simp, .inr ⟨B, cs, rfl, hA, h, by simp, by simp⟩⟩
def stc (x : Addr × Int × Nat × Nat) : List Value := [.pointer (some x.1), .int .i64 x.2.1, .int .i64 (x.2.2.1 : Int), .int .i64 (x.2.2.2 : Int)]
theorem ones_stc (x : Addr × Int × Nat × Nat) : ∀ u ∈ [stc x].flatten, u.oneCell' = true := by intro u hu; simp [stc] at hu; rcases hu with rfl | rfl | rfl | rfl <;> rfl
def AtT (A : List Nat) (w : World) (p : Addr) (t : T) : Prop := p.block ∉ A ∧ ∃ sa sk : Sl, Cells w p (tc t (sa, sk)) ∧ RdT A w t sa sk
theorem AtT.chg {A F : List Nat} {w w' : World} {p : Addr} {t : T} (h : AtT A w p t) (c : Chg F w w') (hF : ∀ b ∈ F, b ∈ A) : AtT A w' p t := by
 obtain ⟨h1, sa, sk, h2, h3⟩ := h
 exact ⟨h1, sa, sk, h2.chg c fun hm => h1 (hF _ hm), RdT.chg c hF h3⟩
theorem AtT.ext {A : List Nat} {w w' : World} {p : Addr} {t : T} (h : AtT A w p t) (c : Ext w w') : AtT A w' p t := h.chg c (by simp)
theorem AtT.less {A A' : List Nat} {w : World} {p : Addr} {t : T} (h : AtT A w p t) (hA : ∀ b ∈ A', b ∈ A) : AtT A' w p t := by
 obtain ⟨h1, sa, sk, h2, h3⟩ := h
 exact ⟨fun hm => h1 (hA _ hm), sa, sk, h2, h3.less hA⟩
theorem AtT.lt {A : List Nat} {w : World} {p : Addr} {t : T} (h : AtT A w p t) : p.block < w.heap.size := by
 obtain ⟨_, sa, sk, h2, _⟩ := h
 have := World.block_lt_of_cell? w _ (h2 0 _ rfl)
 simpa [Addr.add_block] using this
theorem RdT.wide {A A' : List Nat} {w : World} {t : T} {sa sk : Sl} (h : RdT A w t sa sk) (hA : ∀ b ∈ A', b ∈ A ∨ w.heap.size ≤ b) : RdT A' w t sa sk := by
 have h2 : ∀ L : List Nat, (∀ b ∈ L, b ∈ A ∨ w.heap.size ≤ b) → RdT (L ++ A) w t sa sk := fun L => by
  induction L with
  |nil => intro _; exact h
  |cons b L ih =>
   intro hL
   have h3 := ih (fun b hb => hL b (List.mem_cons_of_mem _ hb))
   rcases hL b (List.mem_cons_self ..) with hm | hm
   ·refine h3.less fun x hx => ?_
    rcases List.mem_append.1 hx with hx | hx
    ·rcases List.mem_cons.1 hx with e | hx
     ·subst e; exact List.mem_append_right _ hm
     ·exact List.mem_append_left _ hx
    ·exact List.mem_append_right _ hx
   ·exact h3.fresh hm
 exact (h2 A' hA).less fun b hb => List.mem_append_left _ hb
theorem AtT.wide {A A' : List Nat} {w : World} {p : Addr} {t : T} (h : AtT A w p t) (hA : ∀ b ∈ A', b ∈ A ∨ w.heap.size ≤ b) : AtT A' w p t := by
 have hl := h.lt
 obtain ⟨h1, sa, sk, h2, h3⟩ := h
 exact ⟨fun hm => (hA _ hm).elim h1 (fun h => by omega), sa, sk, h2, h3.wide hA⟩
def pushedA (pk : Addr) (p : Int) (d : Nat) : List T → Nat → List (Addr × T × Int × Nat × Nat)
 |[], _ => []
 |u :: us, i => (pk.add (i * 5), u, p, d, i) :: pushedA pk p d us (i + 1)
theorem pushedA_map (pk : Addr) (p : Int) (d : Nat) : ∀ (us : List T) (i : Nat), (pushedA pk p d us i).map (·.2) = pushed p d us i
 |[], _ => rfl
 |u :: us, i => by rw [pushedA, List.map_cons, pushedA_map pk p d us, pushed]
theorem pushedA_len (pk : Addr) (p : Int) (d : Nat) : ∀ (us : List T) (i : Nat), (pushedA pk p d us i).length = us.length
 |[], _ => rfl
 |u :: us, i => by rw [pushedA, List.length_cons, pushedA_len pk p d us, List.length_cons]
theorem pushedA_get (pk : Addr) (p : Int) (d : Nat) : ∀ (us : List T) (i j : Nat), j < us.length → (pushedA pk p d us i)[j]? = some (pk.add ((i + j) * 5), us.getD j T.nul, p, d, i + j)
 |u :: us, i, 0, _ => rfl
 |u :: us, i, j + 1, h => by
  rw [pushedA, List.getElem?_cons_succ, pushedA_get pk p d us (i + 1) j (by simpa using h), List.getD_cons_succ, show i + 1 + j = i + (j + 1) by omega]
theorem pushedA_drop (pk : Addr) (p : Int) (d : Nat) (us : List T) {j : Nat} (h : j < us.length) : (pushedA pk p d us 0).drop j = (pk.add (j * 5), us.getD j T.nul, p, d, j) :: (pushedA pk p d us 0).drop (j + 1) := by
 have h1 := pushedA_get pk p d us 0 j h
 rw [Nat.zero_add] at h1
 have hlt : j < (pushedA pk p d us 0).length := by rw [pushedA_len]; exact h
 rw [List.drop_eq_getElem_cons hlt]
 rw [List.getElem?_eq_getElem hlt] at h1
 rw [Option.some.inj h1]
def stx (x : Addr × T × Int × Nat × Nat) : List Value := stc (x.1, x.2.2)
theorem last_getD {α : Type} (l : List α) (x d : α) : (l ++ [x]).getD l.length d = x := by simp [List.getD_eq_getElem?_getD]
theorem walkEach {f : FuncId} {fst cap : Array Value} (hbody : Body Try.prog f) {t : T} (hb : t.bulk ≤ 1099511627776) {p : Addr} {w : World} {H0 : List Nat} (hat : AtT H0 w p t)
  (Φ : List En → List Nat → World → Prop) (hΦs : ∀ es H w w' F, Φ es H w → Chg F w w' → (∀ b ∈ F, b ∉ H) → Φ es H w') (hΦb : ∀ es H w, Φ es H w → ∀ b ∈ H, b < w.heap.size)
  (step : ∀ es e rest q H w1, t.flat = es ++ e :: rest → Φ es H w1 → AtT H w1 q e.t → Calls Try.prog f (fst ++ #[.int .i64 (es.length : Int), .agg #[.pointer (some q), .int .i64 e.par, .int .i64 (e.dep : Int), .int .i64 (e.pl : Int)]] ++ cap) w1
   (Ret fun v w2 => v = .bool true ∧ ∃ H', Φ (es ++ [e]) H' w2 ∧ Chg H w1 w2 ∧ ∀ b ∈ H', b ∈ H ∨ w1.heap.size ≤ b)) (h0 : Φ [] H0 w) :
  Calls Try.prog 62 #[.pointer (some p), .func (.func f) fst cap] w (Ret fun v w' => v = .tuple #[] ∧ ∃ H', Φ t.flat H' w' ∧ Chg H0 w w' ∧ ∀ b ∈ H', b ∈ H0 ∨ w.heap.size ≤ b) := by
 refine walk_each.ok _ _ ?_
 unfold walk_each.vc
 intro w1 B5 hN5 hE1 hB5
 have hsz := T.size_bulk t
 have hHw := hΦb _ _ _ h0
 refine ⟨fun s id w' => ∃ (st : List (Addr × T × Int × Nat × Nat)) (es : List En) (H : List Nat), id = (es.length : Int) ∧ t.flat = es ++ rem (st.map (·.2)) es.length ∧ Own (H ++ List.range w.heap.size) w' s 4 114 ((st.map stx).reverse) ∧ s.a ≠ none ∧ Φ es H w' ∧ Chg H0 w w' ∧ (∀ b ∈ H, b ∈ H0 ∨ w.heap.size ≤ b) ∧ (∀ x ∈ st, AtT H0 w x.1 x.2.1), fun _ id _ => t.size - id.toNat,
  ⟨[(p, t, -1, 0, 0)], [], H0, rfl, by simp [rem, T.flat], Own.one (show Box w1 B5 _ (stx (p, t, -1, 0, 0)) from hB5) (fun hm => ?_), by simp, hΦs _ _ _ _ _ h0 hE1 (by simp), hE1.mono (by simp), fun b hb => .inl hb, by simpa using hat⟩, ?_⟩
 ·have := hN5.ge
  rcases List.mem_append.1 hm with hm | hm
  ·have := hHw _ hm; omega
  ·have := List.mem_range.1 hm; omega
 rintro s id w2 ⟨st, es, H, rfl, hfl, hOwn, hne, hΦ, hC, hH, hst⟩
 have hn := hOwn.len
 have hcap := hOwn.cap
 have hmost := hOwn.most
 simp only [List.length_reverse, List.length_map] at hn
 simp only [maxLen] at hmost
 have hsne : s ≠ Sl.nil := fun e => hne (by rw [e]; first | done | rfl)
 refine ⟨fun hpos => ?_, fun hz => ?_⟩
 ·cases st with
  |nil => simp at hn; omega
  |cons x st' =>
   obtain ⟨q, u, par, dep, pl⟩ := x
   simp only [List.length_cons] at hn
   have hrev : (((q, u, par, dep, pl) :: st').map stx).reverse = (st'.map stx).reverse ++ [stx (q, u, par, dep, pl)] := by simp
   rw [hrev] at hOwn
   have hlen' : ((st'.map stx).reverse).length = s.n - 1 := by simp; omega
   obtain ⟨ps, hps, hpsb, hcell, _⟩ := hOwn.row.at_ (s.n - 1) (by simp; omega)
   rw [← hlen', last_getD, hlen'] at hcell
   have hidx : ((s.n : Int) - 1).toNat = s.n - 1 := by omega
   have hel : es.length + 1 ≤ t.size := by
    have := congrArg List.length hfl
    rw [T.flat_len, List.length_append] at this
    simp only [List.map_cons, rem, List.length_append, T.ents_len] at this
    have := T.size_pos u
    omega
   rw [hidx]
   have hOwn1 := hOwn.pre (k := s.n - 1) (by simp; omega) hsne
   rw [show ((st'.map stx).reverse ++ [stx (q, u, par, dep, pl)]).take (s.n - 1) = (st'.map stx).reverse by rw [← hlen', List.take_left]] at hOwn1
   refine ⟨⟨by omega, by omega⟩, ⟨⟨by omega, by omega⟩, ps, hps, some q, par, (dep : Int), (pl : Int), hcell, ⟨by omega, by omega⟩, ⟨by omega, by omega⟩, f, fst, cap, rfl, fun w3 B3 hN3 hE3 => ⟨hbody, ?_⟩⟩⟩
   have hat1 := hst (q, u, par, dep, pl) (by simp)
   have hC3 : Chg H0 w w3 := hC.more hE3
   have hfl2 : t.flat = (es ++ [⟨par, dep, pl, u⟩]) ++ rem (pushed es.length (dep + 1) u.kids 0 ++ st'.map (·.2)) (es.length + 1) := by
    rw [hfl, List.map_cons, rem_step]; simp
   have hΦ3 := hΦs _ _ _ _ _ hΦ hE3 (by simp)
   have hatw : ∀ (H1 : List Nat) (w' : World), Chg H0 w w' → (∀ b ∈ H1, b ∈ H0 ∨ w.heap.size ≤ b) → AtT H1 w' q u := fun H1 w' hc hh =>
    AtT.less ((hat1.wide (A' := H1 ++ H0) (fun b hb => (List.mem_append.1 hb).elim (hh b) .inl)).chg hc (fun b hb => List.mem_append_right _ hb)) (fun b hb => List.mem_append_left _ hb)
   have hcall := step es ⟨par, dep, pl, u⟩ (rem (pushed es.length (dep + 1) u.kids 0 ++ st'.map (·.2)) (es.length + 1)) q H w3 (by rw [hfl2]; simp [List.append_assoc]) hΦ3 (hatw H w3 hC3 hH)
   refine Ret.mono hcall ?_
   rintro v w4 ⟨rfl, H', hΦ4, hC4, hH'⟩
   have hHlt := hΦb _ _ _ hΦ
   refine ⟨hC4.noTouch _ (fun b hb hm => ?_), hC4.size, true, rfl, fun h => by simp at h, fun _ => ?_⟩
   ·simp at hb; subst hb
    have := hHlt _ hm; have := hN3.ge; omega
   have hC04 : Chg H0 w w4 := hC3.more' hC4 hH
   have hH4 : ∀ b ∈ H', b ∈ H0 ∨ w.heap.size ≤ b := fun b hb => (hH' b hb).elim (hH b) (fun h => .inr (Nat.le_trans hC3.size h))
   have hH4lt := hΦb _ _ _ hΦ4
   obtain ⟨hqb, sa, sk, hqc, hqr⟩ := hat1
   replace hqr : RdT H0 w u sa sk := hqr
   replace hqb : q.block ∉ H0 := hqb
   replace hqc : Cells w q (tc u (sa, sk)) := hqc
   have hcp := hqr.caps
   have hnk := hqr.nkids
   have hmk := hcp.2.2.2
   simp only [maxLen] at hmk
   have hkc : ∀ w', Chg H0 w w' → w'.cell? (q.add 4) = some sk.v := fun w' hc => hc.cell (hqc 4 _ rfl) (by rw [Addr.add_block]; exact hqb)
   have hdep : (dep : Int) + 1 = ((dep + 1 : Nat) : Int) := by omega
   have hOwn3 : Own (H' ++ List.range w.heap.size) w4 (s.cut 4 0 (s.n - 1) s.c) 4 114 ((st'.map stx).reverse) := by
    have h3 := hOwn1.chg hE3 (by simp)
    have h4 := h3.keep hC4 (fun b hb hm => (h3.blk b hb).1 (List.mem_append_left _ hm))
    refine h4.avoid fun b hb hm => ?_
    rcases List.mem_append.1 hm with hm | hm
    ·rcases hH' b hm with h | h
     ·exact (h3.blk b hb).1 (List.mem_append_left _ h)
     ·have := (h3.blk b hb).2; omega
    ·exact (h3.blk b hb).1 (List.mem_append_right _ hm)
   have hcutne : (s.cut 4 0 (s.n - 1) s.c).a ≠ none := by
    simp only [Sl.cut]; split
    ·exact hne
    ·cases h : s.a with
     |none => exact absurd h hne
     |some _ => simp
   have hdlt : dep + 1 ≤ 1099511627776 := by
    have := T.flat_dep t (e := ⟨par, dep, pl, u⟩) (by rw [hfl2]; simp)
    simp only at this; omega
   have hroom : u.kids.length + st'.length ≤ t.size := by
    have h1 := congrArg List.length hfl2
    have h2 := rem_len (pushed es.length (dep + 1) u.kids 0 ++ st'.map (·.2)) (es.length + 1)
    rw [T.flat_len, List.length_append] at h1
    rw [List.length_append, pushed_len, List.length_map] at h2
    omega
   have hB3lt : B3 < w4.heap.size := Nat.lt_of_lt_of_le hN3.lt hC4.size
   have hB3s : B3 ∉ (s.cut 4 0 (s.n - 1) s.c).blk := fun hm => by
    have := (hOwn1.blk B3 hm).2; have := hN3.ge; omega
   refine ⟨q, rfl, sk, hkc w4 hC04, ⟨by omega, by omega⟩, fun s i w' => ∃ k : Nat, i + 1 = (k : Int) ∧ k ≤ u.kids.length ∧ Own (B3 :: (H' ++ List.range w.heap.size)) w' s 4 114 ((((pushedA (sk.a.getD ⟨0, 0, none⟩) es.length (dep + 1) u.kids 0).drop k ++ st').map stx).reverse) ∧ s.a ≠ none ∧ Φ (es ++ [⟨par, dep, pl, u⟩]) H' w' ∧ Chg H0 w w' ∧ w4.heap.size ≤ w'.heap.size, fun _ i _ => (i + 1).toNat, ⟨u.kids.length, by omega, Nat.le_refl _, ?_, hcutne, hΦ4, hC04, Nat.le_refl _⟩, ?_⟩
   ·rw [List.drop_of_length_le (by rw [pushedA_len]; exact Nat.le_refl _), List.nil_append]; exact hOwn3.cons hB3s
   rintro s5 i w5 ⟨k, hik, hk, hO5, hne5, hΦ5, hC5, hsz5⟩
   refine ⟨fun hi w6 hE6 => ?_, fun hi => ?_⟩
   ·obtain ⟨j, rfl⟩ : ∃ j : Nat, i = (j : Int) := ⟨i.toNat, by omega⟩
    have hj : k = j + 1 := by omega
    subst hj
    have hju : j < u.kids.length := by omega
    obtain ⟨pk, sa', sk', hpk, hpkb, hkcell, hkr⟩ := hqr.kid hju
    have hC6 : Chg H0 w w6 := hC5.more hE6
    refine ⟨q, rfl, sk, hkc w6 hC6, pk, ⟨⟨by omega, by omega⟩, hpk⟩, ⟨by omega, by omega⟩, fun w7 B7 hE7 hB7 hbox _ => ?_⟩
    rw [Int.toNat_natCast] at hbox
    have hO7 := (hO5.ext hE6).ext hE7
    have hC7 : Chg H0 w w7 := hC6.more hE7
    have hn5 := hO5.len
    have hbox' : Box w7 B7 114 (stx (pk.add (j * 5), u.kids.getD j T.nul, (es.length : Int), dep + 1, j)) := by
     rw [hdep] at hbox; exact hbox
    simp only [List.length_reverse, List.length_map, List.length_append, List.length_drop, pushedA_len] at hn5
    refine App.runK Try.underlying133 ti_114 rfl (by decide) (.inl hO7) (fun b hb => ?_) (Own.one (A := []) hbox' (by simp)).row (ones_stc _) (by simp) ?_ ?_ ?_ fun s8 w8 hO8 hC8 hb8 => ?_
    ·rcases List.mem_cons.1 hb with rfl | hb
     ·exact Nat.lt_of_lt_of_le hB3lt (Nat.le_trans hsz5 (Nat.le_trans hE6.size hE7.size))
     ·rcases List.mem_append.1 hb with hb | hb
      ·have := (hΦb _ _ _ hΦ5) b hb; have := hE6.size; have := hE7.size; omega
      ·have := List.mem_range.1 hb; have := hC7.size; omega
    ·simp only [maxLen, List.length_singleton]; omega
    ·simp only [List.length_singleton]; omega
    ·intro b hb; simp at hb; subst hb; simp
    ·refine ⟨s8, rfl, ⟨by omega, by omega⟩, fun w9 hE9 => ⟨⟨j, by omega, by omega, ?_, ?_, ?_, ?_, ?_⟩, by dsimp only; omega⟩⟩
     ·have e : ((pushedA (sk.a.getD ⟨0, 0, none⟩) es.length (dep + 1) u.kids 0).drop j ++ st').map stx = stx (pk.add (j * 5), u.kids.getD j T.nul, (es.length : Int), dep + 1, j) :: ((pushedA (sk.a.getD ⟨0, 0, none⟩) es.length (dep + 1) u.kids 0).drop (j + 1) ++ st').map stx := by
       rw [pushedA_drop _ _ _ _ hju, hpk]; rfl
      rw [e, List.reverse_cons]
      exact hO8.chg hE9 (by simp)
     ·rcases hO8.at_ with h | ⟨g, cur, h1, _⟩
      ·have := hO8.len; rw [h] at this; simp [Sl.nil] at this
      ·rw [h1]; simp
     ·exact hΦs _ _ _ _ _ (hΦs _ _ _ _ _ (hΦs _ _ _ _ _ (hΦs _ _ _ _ _ hΦ5 hE6 (by simp)) hE7 (by simp)) hC8 fun b hb hm => (hO7.blk b (Sl.own_blk hb)).1 (by simp [hm])) hE9 (by simp)
     ·refine (hC7.more' hC8 fun b hb => .inr ?_).more hE9
      have := (hO7.blk b (Sl.own_blk hb)).1
      simp at this; omega
     ·exact Nat.le_trans hsz5 (Nat.le_trans hE6.size (Nat.le_trans hE7.size (Nat.le_trans hC8.size hE9.size)))
   ·have hk0 : k = 0 := by omega
    subst hk0
    rw [List.drop_zero] at hO5
    replace hO5 := hO5.less (A' := H' ++ List.range w.heap.size) (fun b hb => List.mem_cons_of_mem _ hb)
    refine ⟨⟨by omega, by omega⟩, ⟨pushedA (sk.a.getD ⟨0, 0, none⟩) es.length (dep + 1) u.kids 0 ++ st', es ++ [⟨par, dep, pl, u⟩], H', by simp, ?_, hO5, hne5, hΦ5, hC5, hH4, fun x hx => ?_⟩, ?_⟩
    ·rw [List.map_append, pushedA_map, List.length_append]; exact hfl2
    ·rcases List.mem_append.1 hx with hx | hx
     ·obtain ⟨j, hj, rfl⟩ := List.getElem_of_mem hx
      rw [pushedA_len] at hj
      have hg := pushedA_get (sk.a.getD ⟨0, 0, none⟩) es.length (dep + 1) u.kids 0 j hj
      rw [List.getElem?_eq_getElem (by rw [pushedA_len]; exact hj)] at hg
      rw [Option.some.inj hg]
      obtain ⟨pk, sa', sk', hpk, hpkb, hkcell, hkr⟩ := hqr.kid hj
      rw [hpk, Nat.zero_add]
      exact ⟨by simp only [Option.getD_some, Addr.add_block]; exact hpkb, sa', sk', hkcell, hkr⟩
     ·exact hst x (List.mem_cons_of_mem _ hx)
    ·dsimp only; omega
 ·have hs0 : st = [] := by cases st with
   |nil => rfl
   |cons x r => simp at hn; omega
  subst hs0
  simp only [List.map_nil, rem, List.append_nil] at hfl
  refine ⟨rfl, H, ?_, hC, hH⟩
  rw [hfl]; exact hΦ
def itc (e : En) (a : Sl) (z h : Nat) : List Value := [.int .i64 e.par, .int .i64 (z : Int), .int .i64 (e.dep : Int), .int .i64 (h : Int), .int .i64 (e.pl : Int), .int .i64 e.t.kind, .string (Bs e.t.name), .string (Bs e.t.text), a.v, Sl.nil.v]
theorem ones_ic (e : En) (a : Sl) (z h : Nat) : ∀ u ∈ [itc e a z h].flatten, u.oneCell' = true := by
 intro u hu; simp [itc] at hu; rcases hu with rfl | rfl | rfl | rfl | rfl | rfl | rfl | rfl | rfl | rfl <;> rfl
def icl (es : List En) (al : List Sl) (z h : Nat → Nat) : List (List Value) := (List.range es.length).map fun i => itc (es.getD i ⟨0, 0, 0, T.nul⟩) (al.getD i Sl.nil) (z i) (h i)
theorem cloneAttrs {A : List Nat} {w : World} {s : Sl} {l : List (Str × Str)} (h : Row A w s 2 (l.map ac)) (hb : l.length ≤ 1099511627776) :
  Calls Try.prog 64 #[s.v] w (Ret fun v w' => Ext w w' ∧ ∃ s' : Sl, v = s'.v ∧ Own (List.range w.heap.size) w' s' 2 47 (l.map ac)) := by
 refine slices_Clone__api_Attr_api_Attr_.ok _ ?_
 unfold slices_Clone__api_Attr_api_Attr_.vc
 have hl := h.len
 simp only [List.length_map] at hl
 refine ⟨fun hn => ⟨Chg.refl _ _, Sl.nil, rfl, ?_⟩, fun hn w1 B hN hE hB => ?_⟩
 ·have : l = [] := by
   cases l with
   |nil => rfl
   |cons x r =>
    obtain ⟨p, hp, _⟩ := h.at_ 0 (by simp)
    rw [hp] at hn; simp at hn
  subst this; exact Own.nil _ _ _ _
 ·have hown : Own (List.range w.heap.size) w1 (Sl.mk (some ⟨B, 0, none⟩) 0 0) 2 47 [] :=
   ⟨rfl, Nat.le_refl _, by simp, by simp, .inr ⟨B, [], rfl, by have := hN.ge; simp; omega, hB, by simp, by simp⟩⟩
  cases hx : l with
  |nil =>
   have e := append_none (P := Try.prog) (w := w1) (s := Sl.mk (some ⟨B, 0, none⟩) 0 0) (x := s) (t := 23) (ty := 23) Try.underlying23 ti_47 (Nat.le_refl _) (by rw [hl, hx]; rfl)
   exact ⟨_, _, e, fun b hb => by simp at hb, Nat.le_refl _, _, rfl, hE, _, rfl, hown⟩
  |cons x r =>
   rw [← hx]
   refine App.runK Try.underlying23 ti_47 rfl (by decide) (.inl hown) (fun b hb => Nat.lt_of_lt_of_le (List.mem_range.1 hb) hE.size) ((h.ext hE).less (by simp)) (ones_acs l) (by rw [hx]; simp) (by simp [maxLen]; omega) (by simp; omega) (by simp) fun s' w' ho hc hb => ⟨s', rfl, ?_, s', rfl, by simpa using ho⟩
   exact hE.more (hc.mono (by simp [Sl.own]))
theorem icl_snoc (es : List En) (al : List Sl) (z h : Nat → Nat) (e : En) (a : Sl) (hl : al.length = es.length) : icl (es ++ [e]) (al ++ [a]) z h = icl es al z h ++ [itc e a (z es.length) (h es.length)] := by
 unfold icl
 rw [List.length_append, List.length_singleton, List.range_succ, List.map_append]
 congr 1
 ·refine List.map_congr_left fun i hi => ?_
  have hi' := List.mem_range.1 hi
  simp only [List.getD_eq_getElem?_getD]
  rw [List.getElem?_append_left hi', List.getElem?_append_left (by omega)]
 ·simp only [List.map_cons, List.map_nil, List.getD_eq_getElem?_getD]
  rw [List.getElem?_append_right (Nat.le_refl _), List.getElem?_append_right (by omega), hl]; simp
theorem icl_len (es : List En) (al : List Sl) (z h : Nat → Nat) : (icl es al z h).length = es.length := by simp [icl]
theorem icl_get (es : List En) (al : List Sl) (z h : Nat → Nat) {i : Nat} (hi : i < es.length) : (icl es al z h).getD i [] = itc (es.getD i ⟨0, 0, 0, T.nul⟩) (al.getD i Sl.nil) (z i) (h i) := by
 simp [icl, List.getD_eq_getElem?_getD, hi]
def FlatK (B : Nat) (lo : Nat) (es : List En) (H : List Nat) (w : World) : Prop := ∃ (s : Sl) (al : List Sl), H = B :: (s.blk ++ al.flatMap Sl.blk) ∧ Box w B 79 [s.v] ∧ al.length = es.length ∧ Own (B :: List.range lo) w s 10 86 (icl es al (fun _ => 1) (fun _ => 1)) ∧
 (∀ (i : Nat) (e : En) (a : Sl), es[i]? = some e → al[i]? = some a → ∃ lo', Own (List.range lo') w a 2 47 (e.t.attrs.map ac) ∧ lo ≤ lo' ∧ B < lo' ∧ ∀ b ∈ s.blk, b ∉ a.blk) ∧ lo ≤ w.heap.size
theorem FlatK.lt {B lo : Nat} {es : List En} {H : List Nat} {w : World} (h : FlatK B lo es H w) : ∀ b ∈ H, b < w.heap.size := by
 obtain ⟨s, al, rfl, hB, hl, ho, hr, hlo⟩ := h
 intro b hb
 rcases List.mem_cons.1 hb with rfl | hb
 ·exact hB.lt
 ·rcases List.mem_append.1 hb with hb | hb
  ·exact (ho.blk b hb).2
  ·obtain ⟨a, ha, hb⟩ := List.mem_flatMap.1 hb
   obtain ⟨i, hi, e⟩ := List.getElem_of_mem ha
   obtain ⟨lo', h1, _⟩ := hr i _ a (List.getElem?_eq_getElem (by omega)) (by rw [List.getElem?_eq_getElem hi, e])
   exact (h1.blk b hb).2
theorem FlatK.chg {B lo : Nat} {es : List En} {H : List Nat} {w w' : World} {F : List Nat} (h : FlatK B lo es H w) (c : Chg F w w') (hF : ∀ b ∈ F, b ∉ H) : FlatK B lo es H w' := by
 obtain ⟨s, al, rfl, hB, hl, ho, hr, hlo⟩ := h
 refine ⟨s, al, rfl, hB.keep c (fun hm => hF _ hm (by simp)), hl, ho.keep c (fun b hb hm => hF b hm (by simp [hb])), fun i e a he ha => ?_, Nat.le_trans hlo c.size⟩
 obtain ⟨lo', h1, h2, h3, h4⟩ := hr i e a he ha
 exact ⟨lo', h1.keep c (fun b hb hm => hF b hm (List.mem_cons_of_mem _ (List.mem_append_right _ (List.mem_flatMap.2 ⟨a, List.mem_of_getElem? ha, hb⟩)))), h2, h3, h4⟩
theorem flatStep {B lo : Nat} {es : List En} {e : En} {H : List Nat} {w : World} {q : Addr} (h : FlatK B lo es H w) (hat : AtT H w q e.t) (hes : es.length ≤ 1000000000) (heb : e.t.bulk ≤ 1099511627776) (id : Int) :
  Calls Try.prog 63 (#[] ++ #[.int .i64 id, .agg #[.pointer (some q), .int .i64 e.par, .int .i64 (e.dep : Int), .int .i64 (e.pl : Int)]] ++ #[.pointer (some ⟨B, 0, none⟩)]) w
   (Ret fun v w2 => v = .bool true ∧ ∃ H', FlatK B lo (es ++ [e]) H' w2 ∧ Chg H w w2 ∧ ∀ b ∈ H', b ∈ H ∨ w.heap.size ≤ b) := by
 have hHlt := h.lt
 obtain ⟨s, al, rfl, hB, hl, ho, hr, hlo⟩ := h
 obtain ⟨hqb, sa, sk, hqc, hqr⟩ := hat
 refine walk_Flat_1.ok id (some q) e.par (e.dep : Int) (e.pl : Int) ⟨B, 0, none⟩ ?_
 unfold walk_Flat_1.vc
 have hla : e.t.attrs.length ≤ 1099511627776 := by have := T.slots_bulk e.t; have := T.slots_eq e.t; omega
 refine ⟨q, rfl, fun w1 B1 hN1 hE1 => ⟨e.t.kind, e.t.name, e.t.text, sa, sk, hqc.ext hE1, fun w2 B2 hN2 hE2 => ?_⟩⟩
 refine CallK.ext (cloneAttrs ((hqr.ext (hE1.trans hE2)).attrs) hla) ?_
 rintro v w3 hE3 ⟨sc, rfl, hsc⟩
 refine ⟨sc, rfl, fun w4 hC4 => ?_⟩
 have hE02 : Ext w w2 := hE1.trans hE2
 have hB2 : w.heap.size ≤ B2 := Nat.le_trans hE1.size hN2.ge
 have hE04 : Ext w w4 := Chg.fresh (hE02.trans hE3) hC4 (by simpa using hB2)
 have hsc4 : Own (List.range w2.heap.size) w4 sc 2 47 (e.t.attrs.map ac) := hsc.chg hC4 (by intro b hb; simp at hb; subst hb; exact List.mem_range.2 hN2.lt)
 refine ⟨s, (hB.ext hE04).cell 0 _ rfl, fun w5 B5 hN5 hE5 hbox => ?_⟩
 have hE05 := hE04.trans hE5
 have hn := ho.len
 rw [icl_len] at hn
 have hbox' : Box w5 B5 86 (itc e sc 1 1) := hbox
 have ho5 : Own (B1 :: B2 :: (B :: List.range lo)) w5 s 10 86 (icl es al (fun _ => 1) (fun _ => 1)) :=
  ((ho.ext hE05).cons (fun hm => by have := (ho.blk _ hm).2; omega)).cons (fun hm => by have := (ho.blk _ hm).2; have := hN1.ge; omega)
 have hB5lt : B < w.heap.size := hB.lt
 refine App.runK Try.underlying79 ti_86 rfl (by decide) (.inl ho5) (fun b hb => ?_) (Own.one (A := []) hbox' (by simp)).row (ones_ic _ _ _ _) (by simp) (by simp only [maxLen, List.length_singleton]; omega) (by simp only [List.length_singleton]; omega) (by intro b hb; simp at hb; rcases hb with rfl | rfl <;> simp) fun s' w6 ho6 hC6 hb6 => ?_
 ·have h1 := hN1.lt; have h2 := hN2.lt; have h3 := hE2.size; have h4 := hE3.size; have h5 := hC4.size; have h6 := hE5.size
  simp only [List.mem_cons, List.mem_range] at hb
  rcases hb with rfl | rfl | rfl | hb <;> omega
 have hsz5 := hE05.size
 have hBs : B ∉ s.own := fun hm => (ho.blk B (Sl.own_blk hm)).1 (by simp)
 have hB6 : Box w6 B 79 [s.v] := (hB.ext hE05).keep hC6 hBs
 refine ⟨s', rfl, B, 0, 79, [s.v], rfl, hB6, by simp, fun b hb => ?_, fun w7 hC7 hB7 => ⟨rfl, B :: (s'.blk ++ (al ++ [sc]).flatMap Sl.blk), ?_, ?_, ?_⟩⟩
 ·simp at hb; have := hN1.ge; rcases hb with rfl | rfl <;> omega
 ·have hBs' : B ∉ s'.blk := fun hm => (ho6.blk B hm).1 (by simp)
  refine ⟨s', al ++ [sc], rfl, hB7, by simp [hl], ?_, fun i f a hf ha => ?_, ?_⟩
  ·rw [icl_snoc _ _ _ _ _ _ hl]
   exact (ho6.less (A' := B :: List.range lo) (fun b hb => List.mem_cons_of_mem _ (List.mem_cons_of_mem _ hb))).keep hC7 (fun b hb hm => hBs' (by simp at hm; rwa [← hm]))
  ·by_cases hi : i < es.length
   ·rw [List.getElem?_append_left hi] at hf
    rw [List.getElem?_append_left (by omega)] at ha
    obtain ⟨lo', h1, h2, h3, h4⟩ := hr i f a hf ha
    have h1' := h1.ext hE05
    have hBa : B ∉ a.blk := fun hm => (h1.blk B hm).1 (List.mem_range.2 h3)
    refine ⟨lo', ((h1'.keep hC6 (fun b hb hm => h4 b (Sl.own_blk hm) hb)).keep hC7 (fun b hb hm => hBa (by simp at hm; rwa [← hm]))), h2, h3, fun b hb hm => ?_⟩
    rcases hb6 b hb with h | h
    ·exact h4 b (Sl.own_blk h) hm
    ·have := (h1.blk b hm).2; omega
   ·rw [List.getElem?_append_right (by omega)] at hf ha
    have hi0 : i - es.length = 0 := by
     have := (List.getElem?_eq_some_iff.1 hf).1
     simpa using this
    rw [hi0] at hf
    rw [hl, hi0] at ha
    simp at hf ha; subst hf; subst ha
    have h5 := hsc4.ext hE5
    have hsb : ∀ b ∈ s.own, b ∉ sc.blk := fun b hb hm => (hsc4.blk b hm).1 (List.mem_range.2 (by have := (ho.blk b (Sl.own_blk hb)).2; have := hE02.size; omega))
    refine ⟨w2.heap.size, (h5.keep hC6 (fun b hb hm => hsb b hm hb)).keep hC7 (fun b hb hm => ?_), Nat.le_trans hlo hE02.size, by have := hE02.size; omega, fun b hb hm => ?_⟩
    ·simp at hm; subst hm; exact (hsc4.blk _ hb).1 (List.mem_range.2 (by have := hE02.size; omega))
    ·rcases hb6 b hb with h | h
     ·exact hsb b h hm
     ·have := (h5.blk b hm).2; omega
  ·have := hC6.size; have := hC7.size; omega
 ·refine ((hE05.mono (by simp)).more' hC6 (fun b hb => .inl ?_)).more' hC7 (fun b hb => .inl (by simp at hb; simp [hb]))
  simp [Sl.own_blk hb]
 ·intro b hb
  rcases List.mem_cons.1 hb with rfl | hb
  ·exact .inl (by simp)
  ·rcases List.mem_append.1 hb with hb | hb
   ·rcases hb6 b hb with h | h
    ·exact .inl (by simp [Sl.own_blk h])
    ·exact .inr (by omega)
   ·rw [List.flatMap_append] at hb
    rcases List.mem_append.1 hb with hb | hb
    ·exact .inl (List.mem_cons_of_mem _ (List.mem_append_right _ hb))
    ·simp at hb
     have := (hsc4.blk b hb).1
     have h2 := hE02.size
     simp at this; exact .inr (by omega)
def upd (f : Nat → Nat) (j v : Nat) : Nat → Nat := fun i => if i = j then v else f i
theorem icl_set (es : List En) (al : List Sl) (z h : Nat → Nat) (j v u : Nat) (hj : j < es.length) : (icl es al z h).set j (itc (es.getD j ⟨0, 0, 0, T.nul⟩) (al.getD j Sl.nil) v u) = icl es al (upd z j v) (upd h j u) := by
 refine List.ext_getElem (by simp [icl]) fun i h1 h2 => ?_
 rw [List.getElem_set]
 simp only [icl, List.getElem_map, List.getElem_range, upd]
 by_cases e : j = i
 ·subst e; simp
 ·simp [e, show ¬ i = j from fun h => e h.symm]
theorem icl_congr (es : List En) (al : List Sl) {z h z' h' : Nat → Nat} (hz : ∀ i, i < es.length → z i = z' i ∧ h i = h' i) : icl es al z h = icl es al z' h' := by
 unfold icl
 refine List.map_congr_left fun i hi => ?_
 have := hz i (List.mem_range.1 hi)
 rw [this.1, this.2]
def sumS (l : List T) : Nat := 1 + (l.map T.size).sum
def maxD (l : List T) : Nat := 1 + (l.map T.depth).foldr max 0
def T.zAt (t : T) (i : Nat) : Nat := (t.flat.getD i ⟨0, 0, 0, T.nul⟩).t.size
def T.hAt (t : T) (i : Nat) : Nat := (t.flat.getD i ⟨0, 0, 0, T.nul⟩).t.depth
theorem T.flat_final (t : T) {i : Nat} (hi : i < t.size) : sumS (selT i (t.flat.drop 1)) = t.zAt i ∧ maxD (selT i (t.flat.drop 1)) = t.hAt i := by
 have hl : i < t.flat.length := by rw [T.flat_len]; exact hi
 have hg := List.getElem?_eq_getElem hl
 have h1 := t.flat_sel hg
 have h0 : t.flat = ⟨-1, 0, 0, t⟩ :: t.flat.drop 1 := by
  conv => lhs; unfold T.flat
  rw [T.ents_eq]
  simp [T.flat, T.ents_eq]
 have h2 := congrArg (selT (i : Int)) h0
 rw [selT_cons, if_neg (show ¬ (-1 : Int) = (i : Int) by omega), List.nil_append, h1] at h2
 rw [← h2]
 unfold T.zAt T.hAt
 rw [List.getD_eq_getElem?_getD, hg, Option.getD_some, T.size_eq, T.depth_eq]
 exact ⟨rfl, rfl⟩
def Items (A : List Nat) (w : World) (s : Sl) (t : T) : Prop := ∃ al : List Sl, al.length = t.flat.length ∧ Own A w s 10 86 (icl t.flat al t.zAt t.hAt) ∧
 ∀ (i : Nat) (e : En) (a : Sl), t.flat[i]? = some e → al[i]? = some a → Row A w a 2 (e.t.attrs.map ac)
theorem walkFlat {A : List Nat} {t : T} (hb : t.bulk ≤ 1000000000) {w : World} {sa sk : Sl} (h : RdT A w t sa sk) :
  Calls Try.prog 37 #[tv t sa sk] w (Ret fun v w' => Ext w w' ∧ ∃ s : Sl, v = s.v ∧ Items (List.range w.heap.size) w' s t) := by
 refine walk_Flat.ok _ _ _ _ _ ?_
 unfold walk_Flat.vc
 have hsz := T.size_bulk t
 have hpos := T.size_pos t
 intro w1 B1 B2 hN1 hN2 hne hE1 hB1 hB2
 have hat : AtT [B2] w1 ⟨B1, 0, none⟩ t := ⟨by simpa using hne, sa, sk, hB1.cells, ((h.less (A' := []) (by simp)).fresh hN2.ge).ext hE1⟩
 have hn2 := hN2.ge
 have h0 : FlatK B2 w.heap.size [] [B2] w1 := ⟨Sl.nil, [], by simp [Sl.blk, Sl.nil], hB2, rfl, Own.nil _ _ _ _, by simp, hE1.size⟩
 have hcall := walkEach (f := 63) (fst := #[]) (cap := #[.pointer (some ⟨B2, 0, none⟩)]) ⟨_, Try.func63, by decide, rfl⟩ (by omega) hat (FlatK B2 w.heap.size) (fun es H w w' F h c hF => h.chg c hF) (fun es H w h => h.lt)
  (fun es e rest q H w1 hfl hΦ hat => by
   have hl : es.length ≤ t.size := by
    have := congrArg List.length hfl
    rw [T.flat_len, List.length_append] at this; omega
   have he : e.t.bulk ≤ t.bulk := T.flat_bulk t e (by rw [hfl]; simp)
   exact flatStep hΦ hat (by omega) (by omega) _) h0
 refine CallK.chg (F := [B2]) (R := fun v w' => v = .tuple #[] ∧ ∃ H', FlatK B2 w.heap.size t.flat H' w') (Ret.mono hcall fun v w' ⟨h1, H', h2, h3, _⟩ => ⟨h3, h1, H', h2⟩) (by simp) ?_
 rintro v w2 hC2 ⟨rfl, H', s, al, rfl, hbox, hal, hown, hrows, _⟩
 have hE2 : Ext w w2 := Chg.fresh hE1 hC2 (by simpa using hn2)
 have hfl := t.flat_len
 have hn := hown.len
 rw [icl_len, hfl] at hn
 have hcap := hown.cap
 have hmost := hown.most
 simp only [maxLen] at hmost
 have hB2s : B2 ∉ s.blk := fun hm => (hown.blk B2 hm).1 (by simp)
 refine ⟨rfl, s, hbox.cell 0 _ rfl, ⟨by omega, by omega⟩, fun i w' => ∃ (k : Nat) (z h : Nat → Nat), i = (k : Int) ∧ k < t.size ∧ Box w' B2 79 [s.v] ∧ Own (B2 :: List.range w.heap.size) w' s 10 86 (icl t.flat al z h) ∧ Chg s.blk w2 w' ∧
  (∀ j, j < t.size → z j = sumS (selT j (t.flat.drop (k + 1))) ∧ h j = maxD (selT j (t.flat.drop (k + 1)))), fun i _ => i.toNat,
  ⟨t.size - 1, fun _ => 1, fun _ => 1, by omega, by omega, hbox, hown, Chg.refl _ _, fun j _ => ?_⟩, ?_⟩
 ·rw [List.drop_of_length_le (by omega)]; exact ⟨rfl, rfl⟩
 rintro i w3 ⟨k, z, h, rfl, hk, hb3, ho3, hC3, hzh⟩
 refine ⟨fun hi w4 hE4 => ?_, fun hi => ?_⟩
 ·obtain ⟨e, he⟩ : ∃ e, t.flat[k]? = some e := ⟨_, List.getElem?_eq_getElem (by omega)⟩
  obtain ⟨k', rfl⟩ : ∃ k', k = k' + 1 := ⟨k - 1, by omega⟩
  have hpar := t.flat_par he
  have hlt := t.flat_lt he
  obtain ⟨p, hp⟩ : ∃ p : Nat, e.par = (p : Int) := ⟨e.par.toNat, by omega⟩
  have hps : p < t.size := by omega
  have hpk : p < k' + 1 := by omega
  have hek : t.flat.getD (k' + 1) ⟨0, 0, 0, T.nul⟩ = e := by rw [List.getD_eq_getElem?_getD, he]; rfl
  have ho4 := ho3.ext hE4
  have hzk : z (k' + 1) = e.t.size ∧ h (k' + 1) = e.t.depth := by
   have := hzh (k' + 1) hk
   rw [t.flat_drop he] at this
   rw [T.size_eq, T.depth_eq]; exact this
  have hzb : ∀ j, j < t.size → z j ≤ t.bulk ∧ h j ≤ t.bulk := fun j hj => by
   obtain ⟨f, hf⟩ : ∃ f, t.flat[j]? = some f := ⟨_, List.getElem?_eq_getElem (by omega)⟩
   have h1 := t.flat_sel hf
   rw [← List.take_append_drop (k' + 1 + 1) t.flat, selT_app] at h1
   have h2 := T.flat_bulk t f (List.mem_of_getElem? hf)
   have h3 := T.size_bulk f.t
   have h4 := T.size_eq f.t
   have h5 := T.depth_size f.t
   have h6 := T.depth_eq f.t
   have h7 := hzh j hj
   rw [← h1, List.map_append, List.sum_append] at h4
   have h8 : ∀ x ∈ (selT (j : Int) (t.flat.drop (k' + 1 + 1))).map T.depth, x ≤ (f.t.kids.map T.depth).foldr max 0 := fun x hx => by
    have hm : x ∈ f.t.kids.map T.depth := by rw [← h1, List.map_append]; exact List.mem_append_right _ hx
    have go : ∀ l : List Nat, x ∈ l → x ≤ l.foldr max 0 := fun l => by
     induction l with
     |nil => intro h; cases h
     |cons a r ih =>
      intro h
      simp only [List.foldr_cons]
      rcases List.mem_cons.1 h with rfl | h
      ·omega
      ·have := ih h; omega
    exact go _ hm
   have h9 := T.foldr_max_le h8
   rw [h7.1, h7.2]
   unfold sumS maxD
   omega
  obtain ⟨g, cur, ha, hgA, hg4, hcl, hct⟩ : ∃ g cur, s.a = some ⟨g, 0, none⟩ ∧ g ∉ B2 :: List.range w.heap.size ∧ Box w4 g 86 cur ∧ cur.length = s.c * 10 ∧ cur.take (s.n * 10) = (icl t.flat al z h).flatten := by
   rcases ho4.at_ with h1 | h1
   ·rw [h1] at hn; simp [Sl.nil] at hn; omega
   ·exact h1
  have cell : ∀ {w' : World} {z h : Nat → Nat}, Own (B2 :: List.range w.heap.size) w' s 10 86 (icl t.flat al z h) → ∀ j, j < t.size → Cells w' ((⟨g, 0, none⟩ : Addr).add (j * 10)) (itc (t.flat.getD j ⟨0, 0, 0, T.nul⟩) (al.getD j Sl.nil) (z j) (h j)) := fun ho j hj => by
   have := ho.row.cells1 (i := j) (by rw [icl_len]; omega) ha
   rwa [icl_get _ _ _ _ (by omega)] at this
  have ck := cell ho4 (k' + 1) hk
  rw [hek] at ck
  have b4 := hb3.ext hE4
  have hgB : g ≠ B2 := fun hh => hgA (by simp [hh])
  refine ⟨s, b4.cell 0 _ rfl, s, b4.cell 0 _ rfl, ⟨g, 0, none⟩, ⟨⟨by omega, by omega⟩, ha⟩, (p : Int), by rw [← hp]; exact ck 0 _ rfl, ⟨g, 0, none⟩, ⟨⟨by omega, by omega⟩, ha⟩, fun w5 hE5 => ?_⟩
  have b5 := b4.ext hE5
  have ho5 := ho4.ext hE5
  have zp := hzb p hps
  have zk := hzb (k' + 1) hk
  refine ⟨(z p : Int), cell ho5 p hps 1 _ rfl, s, b5.cell 0 _ rfl, ⟨g, 0, none⟩, ⟨⟨by omega, by omega⟩, ha⟩, (z (k' + 1) : Int), cell ho5 (k' + 1) hk 1 _ rfl, ⟨by omega, by omega⟩, fun w6 hE6 => ?_⟩
  have b6 := b5.ext hE6
  have ho6 := ho5.ext hE6
  have hg6 := (hg4.ext hE5).ext hE6
  refine ⟨g, p * 10 + 1, 86, cur, by simp [Addr.add_lit], hg6, by omega, by simp, fun w7 hC7 hB7 w8 hE8 => ?_⟩
  have ho7 := ho6.put (o := 1) (us := [.int .i64 ((z p : Int) + (z (k' + 1) : Int))]) ha hg6 (j := p) (by rw [icl_len]; omega) (by simp) hB7
  rw [icl_get _ _ _ _ (by omega)] at ho7
  have ho7' : Own (B2 :: List.range w.heap.size) w7 s 10 86 (icl t.flat al (upd z p (z p + z (k' + 1))) h) := by
   have e1 := icl_set t.flat al z h p (z p + z (k' + 1)) (h p) (by omega)
   rw [icl_congr t.flat al (z' := upd z p (z p + z (k' + 1))) (h' := h) (fun i _ => ⟨rfl, by unfold upd; split <;> simp_all⟩)] at e1
   rw [← e1]; exact ho7
  have b8 := (b6.keep hC7 (by simpa using fun hh : B2 = g => hgB hh.symm)).ext hE8
  have ho8 := ho7'.ext hE8
  refine ⟨(h p : Int), cell ho8 p hps 3 _ rfl, s, b8.cell 0 _ rfl, ⟨g, 0, none⟩, ⟨⟨by omega, by omega⟩, ha⟩, (h (k' + 1) : Int), cell ho8 (k' + 1) hk 3 _ rfl, ⟨by omega, by omega⟩, fun w9 hE9 => ?_⟩
  have ho9 := ho8.ext hE9
  have hg9 := (hB7.ext hE8).ext hE9
  refine ⟨g, p * 10 + 3, 86, _, by simp [Addr.add_lit], hg9, by rw [putAt_len]; omega, by simp, fun w10 hC10 hB10 => ?_⟩
  have ho10 := ho9.put (o := 3) (us := [.int .i64 (max (h p : Int) ((h (k' + 1) : Int) + 1))]) ha hg9 (j := p) (by rw [icl_len]; omega) (by simp) hB10
  rw [icl_get _ _ _ _ (by omega)] at ho10
  have em : max (h p : Int) ((h (k' + 1) : Int) + 1) = ((max (h p) (h (k' + 1) + 1) : Nat) : Int) := by omega
  rw [em] at ho10
  have ho10' : Own (B2 :: List.range w.heap.size) w10 s 10 86 (icl t.flat al (upd z p (z p + z (k' + 1))) (upd h p (max (h p) (h (k' + 1) + 1)))) := by
   have e1 := icl_set t.flat al (upd z p (z p + z (k' + 1))) h p (upd z p (z p + z (k' + 1)) p) (max (h p) (h (k' + 1) + 1)) (by omega)
   rw [icl_congr t.flat al (z' := upd z p (z p + z (k' + 1))) (h' := upd h p (max (h p) (h (k' + 1) + 1))) (fun i _ => ⟨by unfold upd; split <;> simp_all, rfl⟩)] at e1
   rw [← e1]; exact ho10
  have hgs : ∀ b ∈ [g], b ∈ s.blk := by simp [Sl.blk, ha]
  refine ⟨⟨by omega, by omega⟩, ⟨k', upd z p (z p + z (k' + 1)), upd h p (max (h p) (h (k' + 1) + 1)), by omega, by omega, (b8.ext hE9).keep hC10 (by simpa using fun hh : B2 = g => hgB hh.symm), ho10', ?_, fun j hj => ?_⟩, by dsimp only; omega⟩
  ·exact (((((((hC3.more hE4).more hE5).more hE6).trans (hC7.mono hgs)).more hE8).more hE9).trans (hC10.mono hgs))
  ·have hd : t.flat.drop (k' + 1) = e :: t.flat.drop (k' + 1 + 1) := by
    rw [List.drop_eq_getElem_cons (by omega)]
    congr 1
    rw [List.getElem?_eq_getElem (by omega)] at he
    exact Option.some.inj he
   have hj' := hzh j hj
   rw [hd, selT_cons, hp]
   unfold upd
   by_cases hjp : j = p
   ·subst hjp
    rw [if_pos rfl, if_pos rfl, if_pos rfl, hj'.1, hj'.2, hzk.1, hzk.2]
    simp only [sumS, maxD, List.cons_append, List.nil_append, List.map_cons, List.sum_cons, List.foldr_cons]
    omega
   ·rw [if_neg hjp, if_neg hjp, if_neg (by omega)]
    exact hj'
 ·have hk0 : k = 0 := by omega
  subst hk0
  have e1 : icl t.flat al z h = icl t.flat al t.zAt t.hAt := icl_congr _ _ fun i hi => by
   have h1 := hzh i (by omega)
   have h2 := t.flat_final (i := i) (by omega)
   exact ⟨h1.1.trans h2.1, h1.2.trans h2.2⟩
  rw [e1] at ho3
  refine ⟨s, hb3.cell 0 _ rfl, Chg.fresh hE2 hC3 (fun b hb => ?_), s, rfl, al, hal, ho3.less (fun b hb => List.mem_cons_of_mem _ hb), fun i e a he ha => ?_⟩
  ·have := (hown.blk b hb).1
   simp at this; omega
  ·obtain ⟨lo', h1, h2, h3, h4⟩ := hrows i e a he ha
   exact ((h1.keep hC3 (fun b hb hm => h4 b hm hb)).less (fun b hb => List.mem_range.2 (by have := List.mem_range.1 hb; omega))).row
end
section
open Go.RowKit
theorem kidsE_end : ∀ (us : List T), (∀ u ∈ us, ∀ (id : Nat) (p : Int) (d pl : Nat), ∀ (j : Nat) (e : En), (u.ents id p d pl)[j]? = some e → j + e.t.size ≤ u.size) →
  ∀ (nx : Nat) (p : Int) (d i : Nat), ∀ (j : Nat) (e : En), (kidsE us nx p d i)[j]? = some e → j + e.t.size ≤ (us.map T.size).sum
 |[], _, _, _, _, _, j, e, he => by simp [kidsE_nil] at he
 |u :: us, h, nx, p, d, i, j, e, he => by
  rw [kidsE_cons] at he
  simp only [List.map_cons, List.sum_cons]
  by_cases hj : j < u.size
  ·rw [List.getElem?_append_left (by rw [T.ents_len]; exact hj)] at he
   have := h u (by simp) nx p d i j e he; omega
  ·rw [List.getElem?_append_right (by rw [T.ents_len]; omega), T.ents_len] at he
   have := kidsE_end us (fun v hv => h v (by simp [hv])) (nx + u.size) p d (i + 1) (j - u.size) e he; omega
theorem T.ents_end : ∀ (t : T) (id : Nat) (p : Int) (d pl : Nat), ∀ (j : Nat) (e : En), (t.ents id p d pl)[j]? = some e → j + e.t.size ≤ t.size := T.ind' fun t ih id p d pl j e he => by
 rw [T.ents_eq] at he
 cases j with
 |zero =>
  simp only [List.getElem?_cons_zero, Option.some.injEq] at he
  subst he; show 0 + t.size ≤ _; omega
 |succ j =>
  rw [List.getElem?_cons_succ] at he
  have := kidsE_end t.kids ih (id + 1) id (d + 1) 0 j e he
  rw [T.size_eq t]; omega
theorem T.flat_get (t : T) {j : Nat} (h : j < t.size) : t.flat[j]? = some (t.flat.getD j ⟨0, 0, 0, T.nul⟩) := by
 have hl : j < t.flat.length := by rw [T.flat_len]; exact h
 rw [List.getD_eq_getElem?_getD, List.getElem?_eq_getElem hl]; rfl
theorem T.zAt_end (t : T) {j : Nat} (h : j < t.size) : j + t.zAt j ≤ t.size ∧ 1 ≤ t.zAt j :=
 ⟨T.ents_end t 0 (-1) 0 0 j _ (t.flat_get h), T.size_pos _⟩
def kidLoop (z : Nat → Nat) (lim : Nat) : Nat → Nat → List Nat
 |0, _ => []
 |f + 1, k => if k < lim then k :: kidLoop z lim f (k + z k) else []
def T.kidsAt (t : T) (j : Nat) : List Nat := kidLoop t.zAt (j + t.zAt j) t.size (j + 1)
theorem kidLoop_lt (z : Nat → Nat) (lim : Nat) : ∀ (f k : Nat), ∀ x ∈ kidLoop z lim f k, k ≤ x ∧ x < lim
 |0, _, x, hx => by cases hx
 |f + 1, k, x, hx => by
  rw [kidLoop] at hx
  split at hx
  ·rcases List.mem_cons.1 hx with rfl | hx
   ·omega
   ·have := kidLoop_lt z lim f (k + z k) x hx; omega
  ·cases hx
theorem T.kidsAt_lt (t : T) {j : Nat} (h : j < t.size) : ∀ x ∈ t.kidsAt j, j < x ∧ x < t.size := fun x hx => by
 have h1 := kidLoop_lt _ _ _ _ x hx
 have := (t.zAt_end h).1
 omega
theorem kidLoop_len (z : Nat → Nat) (lim : Nat) (hz : ∀ k, k < lim → 1 ≤ z k) : ∀ (f k : Nat), (kidLoop z lim f k).length ≤ lim - k
 |0, _ => by simp [kidLoop]
 |f + 1, k => by
  rw [kidLoop]
  split
  ·rename_i hk
   have := kidLoop_len z lim hz f (k + z k)
   have := hz k hk
   simp only [List.length_cons]; omega
  ·simp
theorem T.kidsAt_len (t : T) {j : Nat} (h : j < t.size) : (t.kidsAt j).length ≤ t.size := by
 have h1 := (t.zAt_end h).1
 have := kidLoop_len t.zAt (j + t.zAt j) (fun k hk => (t.zAt_end (by omega)).2) t.size (j + 1)
 unfold T.kidsAt; omega
def nc (k : Nat) : List Value := [.int .i64 (k : Int)]
theorem ones_nc (k : Nat) : ∀ u ∈ [nc k].flatten, u.oneCell' = true := by intro u hu; simp [nc] at hu; subst hu; rfl
theorem Own.apart {A B : List Nat} {w : World} {s a : Sl} {m n : Nat} {T S : TypeId} {vs us : List (List Value)} (h : Own A w s m T vs) (k : Own B w a n S us) (hne : T ≠ S) : ∀ b ∈ s.blk, b ∉ a.blk := by
 intro b hb hm
 rcases h.at_ with e | ⟨g, cur, h1, _, h3, _⟩
 ·rw [e] at hb; simp [Sl.blk, Sl.nil] at hb
 ·simp [Sl.blk, h1] at hb; subst hb
  exact (k.other h3 (Ne.symm hne)) hm
theorem slotsKids {A : List Nat} {w : World} {a : Sl} {t : T} (h : Items A w a t) (hb : t.size ≤ 1000000000) {j : Nat} (hj : j < t.size) :
  Calls Try.prog 41 #[a.v, .int .i64 (j : Int)] w (Ret fun v w' => Ext w w' ∧ ∃ s : Sl, v = s.v ∧ Own (List.range w.heap.size) w' s 1 3 ((t.kidsAt j).map nc)) := by
 obtain ⟨al, hal, ho, hr⟩ := h
 have hn := ho.len
 rw [icl_len, T.flat_len] at hn
 have hend := t.zAt_end hj
 refine slots_kids.ok _ _ ?_
 unfold slots_kids.vc
 obtain ⟨p, hp⟩ : ∃ p, a.a = some p := by
  obtain ⟨p, hp, _⟩ := ho.row.at_ j (by rw [icl_len, T.flat_len]; exact hj)
  exact ⟨p, hp⟩
 have hpb : p.block ∈ a.blk := by simp [Sl.blk, hp]
 have size : ∀ w', Ext w w' → ∀ k, k < t.size → w'.cell? ((p.add (k * 10)).add 1) = some (.int .i64 (t.zAt k : Int)) := fun w' hE k hk => by
  have := (ho.ext hE).row.cells1 (i := k) (by rw [icl_len, T.flat_len]; exact hk) hp
  rw [icl_get _ _ _ _ (by rw [T.flat_len]; exact hk)] at this
  exact this 1 _ rfl
 refine ⟨⟨by omega, by omega⟩, fun s k w' => ∃ (k' f : Nat) (us : List Nat), k = (k' : Int) ∧ j < k' ∧ t.size ≤ f + k' ∧ Own (List.range w.heap.size) w' s 1 3 (us.map nc) ∧ us ++ kidLoop t.zAt (j + t.zAt j) f k' = t.kidsAt j ∧ us.length ≤ k' ∧ k' ≤ t.size ∧ Ext w w', fun _ k _ => t.size - k.toNat,
  ⟨j + 1, t.size, [], by omega, by omega, by omega, Own.nil _ _ _ _, rfl, by simp, by omega, Chg.refl _ _⟩, ?_⟩
 rintro s _ w2 ⟨k, f, us, rfl, hjk, hf, hO, hus, hul, hks, hE⟩
 refine ⟨⟨by omega, by omega⟩, p, hp, (t.zAt j : Int), size w2 hE j hj, ⟨by omega, by omega⟩, fun hlt w3 B hN hE3 hB => ?_, fun hge => ?_⟩
 ·have hk : k < t.size := by omega
  have hzk := t.zAt_end hk
  have hun := hO.len
  rw [List.length_map] at hun
  obtain ⟨f', rfl⟩ : ∃ f', f = f' + 1 := by
   cases f with
   |zero => exact absurd hf (by omega)
   |succ f => exact ⟨f, rfl⟩
  rw [kidLoop, if_pos (by omega)] at hus
  have hbox : Box w3 B 3 (nc k) := hB
  refine App.runK Try.underlying22 ti_3 rfl (by decide) (.inl (hO.ext hE3)) (fun b hb => Nat.lt_of_lt_of_le (List.mem_range.1 hb) (hE.trans hE3).size) (Own.one (A := []) hbox (by simp)).row (ones_nc _) (by simp) (by simp only [maxLen, List.length_singleton]; omega) (by simp only [List.length_singleton]; omega) (by simp) fun s' w4 ho4 hC4 hb4 => ?_
  have hE4 : Ext w w4 := Chg.fresh (hE.trans hE3) hC4 (fun b hb => by have := (hO.blk b (Sl.own_blk hb)).1; simp at this; exact this)
  refine ⟨s', rfl, ⟨by omega, by omega⟩, p, hp, (t.zAt k : Int), size w4 hE4 k hk, ⟨by omega, by omega⟩, ⟨k + t.zAt k, f', us ++ [k], by omega, by omega, by omega, by rw [List.map_append]; exact ho4, by rw [List.append_assoc]; exact hus, by simp; omega, by omega, hE4⟩, ?_⟩
  dsimp only; omega
 ·refine ⟨hE, s, rfl, ?_⟩
  have : us = t.kidsAt j := by
   rw [← hus]
   cases f with
   |zero => simp [kidLoop]
   |succ f => rw [kidLoop, if_neg (by omega)]; simp
  rw [← this]; exact hO
end
section
open Go.RowKit
theorem refBare {A : List Nat} {w : World} {t : T} {sa sk : Sl} (h : RdT A w t sa sk) (hb : t.bulk ≤ 1099511627776) :
  Calls Try.prog 59 #[tv t sa sk] w (Ret fun v w' => Ext w w' ∧ ∃ s : Sl, v = .agg #[.int .i64 t.kind, .string (Bs t.name), .string (Bs t.text), s.v, Sl.nil.v] ∧ Own (List.range w.heap.size) w' s 2 47 (t.attrs.map ac)) := by
 refine ref06_Bare.ok _ _ _ _ _ ?_
 unfold ref06_Bare.vc
 intro w1 B1 B2 hN1 hN2 hne hE1
 have hl := h.nattrs
 have hla : t.attrs.length ≤ 1099511627776 := by have := T.slots_bulk t; have := T.slots_eq t; omega
 have h2 := hN2.ge
 cases hx : t.attrs with
 |nil =>
  have e := append_none (P := Try.prog) (w := w1) (s := Sl.nil) (x := sa) (t := 23) (ty := 23) Try.underlying23 ti_47 (Nat.le_refl _) (by rw [hl, hx]; rfl)
  refine ⟨_, _, e, fun b hb _ => rfl, Nat.le_refl _, Sl.nil, rfl, fun w2 hE2 w3 hC3 => ⟨Chg.fresh (hE1.trans hE2) hC3 (by simpa using h2), Sl.nil, rfl, Own.nil _ _ _ _⟩⟩
 |cons x r =>
  rw [← hx]
  refine App.runK (A := B1 :: B2 :: List.range w.heap.size) Try.underlying23 ti_47 rfl (by decide) (.inl (Own.nil _ _ _ _)) (fun b hb => ?_) ((h.ext hE1).attrs.less (by simp)) (ones_acs t.attrs) (by rw [hx]; simp) (by simp [maxLen]; omega) (by simp; omega) (by simp) fun s' w' ho hc hb => ⟨s', rfl, fun w2 hE2 w3 hC3 => ⟨?_, s', rfl, ?_⟩⟩
  ·have h3 := hN1.lt; have h4 := hN2.lt; have h5 := hE1.size
   simp only [List.mem_cons, List.mem_range] at hb
   rcases hb with rfl | rfl | hb <;> omega
  ·exact Chg.fresh ((hE1.trans (hc.mono (by simp [Sl.own]))).trans hE2) hC3 (by simpa using h2)
  ·exact ((ho.ext hE2).chg hC3 (by simp)).less fun b hb => by simp at hb ⊢; omega
def rc (e : En) (a sa sk : Sl) (z h : Nat) : List Value := [.int .i64 e.par, .int .i64 (z : Int), .int .i64 (e.dep : Int), .int .i64 (h : Int), .int .i64 (e.pl : Int), .int .i64 e.t.kind, .string (Bs e.t.name), .string (Bs e.t.text), a.v, Sl.nil.v, .int .i64 e.t.kind, .string (Bs e.t.name), .string (Bs e.t.text), sa.v, sk.v]
theorem ones_rc (e : En) (a sa sk : Sl) (z h : Nat) : ∀ u ∈ [rc e a sa sk z h].flatten, u.oneCell' = true := by
 intro u hu; simp [rc] at hu; rcases hu with rfl | rfl | rfl | rfl | rfl | rfl | rfl | rfl | rfl | rfl | rfl | rfl | rfl | rfl | rfl <;> rfl
def RIok (Q : T → Sl → Sl → Prop) (w : World) (e : En) (z h : Nat) (u : List Value) : Prop := ∃ a sa sk : Sl, u = rc e a sa sk z h ∧ Own [] w a 2 47 (e.t.attrs.map ac) ∧ Q e.t sa sk
def RIs (Q : T → Sl → Sl → Prop) (w : World) (es : List En) (rows : List (List Value)) : Prop := rows.length = es.length ∧ ∀ (i : Nat) (e : En) (u : List Value), es[i]? = some e → rows[i]? = some u → RIok Q w e e.t.size e.t.depth u
theorem RIok.keep {Q : T → Sl → Sl → Prop} {w w' : World} {e : En} {z h : Nat} {u : List Value} (k : RIok Q w e z h u) {A : List Nat} {s : Sl} {vs : List (List Value)} {F : List Nat} (ho : Own A w s 15 38 vs) (c : Chg F w w') (hF : ∀ b ∈ F, b ∈ s.blk) : RIok Q w' e z h u := by
 obtain ⟨a, sa, sk, h1, h2, h3⟩ := k
 exact ⟨a, sa, sk, h1, h2.keep c fun b hb hm => (ho.apart h2 (by decide)) b (hF b hm) hb, h3⟩
theorem RIok.ext {Q : T → Sl → Sl → Prop} {w w' : World} {e : En} {z h : Nat} {u : List Value} (k : RIok Q w e z h u) (c : Ext w w') : RIok Q w' e z h u := by
 obtain ⟨a, sa, sk, h1, h2, h3⟩ := k
 exact ⟨a, sa, sk, h1, h2.ext c, h3⟩
theorem RIs.keep {Q : T → Sl → Sl → Prop} {w w' : World} {es : List En} {rows : List (List Value)} (k : RIs Q w es rows) {A : List Nat} {s : Sl} {vs : List (List Value)} {F : List Nat} (ho : Own A w s 15 38 vs) (c : Chg F w w') (hF : ∀ b ∈ F, b ∈ s.blk) : RIs Q w' es rows :=
 ⟨k.1, fun i e u he hu => (k.2 i e u he hu).keep ho c hF⟩
theorem RIs.ext {Q : T → Sl → Sl → Prop} {w w' : World} {es : List En} {rows : List (List Value)} (k : RIs Q w es rows) (c : Ext w w') : RIs Q w' es rows := ⟨k.1, fun i e u he hu => (k.2 i e u he hu).ext c⟩
theorem RIs.app {Q : T → Sl → Sl → Prop} {w : World} {es fs : List En} {r1 r2 : List (List Value)} (k : RIs Q w es r1) (l : RIs Q w fs r2) : RIs Q w (es ++ fs) (r1 ++ r2) := by
 refine ⟨by simp [k.1, l.1], fun i e u he hu => ?_⟩
 by_cases hi : i < es.length
 ·rw [List.getElem?_append_left hi] at he
  rw [List.getElem?_append_left (by rw [k.1]; exact hi)] at hu
  exact k.2 i e u he hu
 ·rw [List.getElem?_append_right (by omega)] at he
  rw [List.getElem?_append_right (by rw [k.1]; omega), k.1] at hu
  exact l.2 _ e u he hu
theorem kidsE_snoc : ∀ (us : List T) (u : T) (nx : Nat) (p : Int) (d i : Nat), kidsE (us ++ [u]) nx p d i = kidsE us nx p d i ++ u.ents (nx + (us.map T.size).sum) p d (i + us.length)
 |[], u, nx, p, d, i => by simp [kidsE_cons, kidsE_nil]
 |v :: us, u, nx, p, d, i => by
  rw [List.cons_append, kidsE_cons, kidsE_snoc us u, kidsE_cons, List.append_assoc]
  simp only [List.map_cons, List.sum_cons, List.length_cons]
  rw [show nx + v.size + (us.map T.size).sum = nx + (v.size + (us.map T.size).sum) by omega, show i + 1 + us.length = i + (us.length + 1) by omega]
theorem refFlat : ∀ t : T, ∀ {X G A : List Nat} {wq w : World} {sa sk l : Sl} {vs : List (List Value)} (par : Int) (dep pl : Nat), RdT X wq t sa sk → Chg G wq w → (∀ b ∈ G, b ∈ X) → Own A w l 15 38 vs → (∀ b ∈ A, b < w.heap.size) → (∀ b ∈ l.own, b ∈ X) → vs.length + t.size ≤ 1000000000 → t.bulk ≤ 1000000000 → dep + t.size ≤ 1000000000 →
  Calls Try.prog 35 #[l.v, tv t sa sk, .int .i64 par, .int .i64 (dep : Int), .int .i64 (pl : Int)] w
   (Ret fun v w' => Chg l.own w w' ∧ ∃ (s : Sl) (rows : List (List Value)), v = s.v ∧ Own A w' s 15 38 (vs ++ rows) ∧ (∀ b ∈ s.blk, b ∈ l.own ∨ w.heap.size ≤ b) ∧ RIs (RdT [] wq) w' (t.ents vs.length par dep pl) rows) := T.ind' fun t ih X G A wq w sa sk l vs par dep pl hq hG hGX ho hA hlX hvs hb hdep => by
 have hr : RdT X w t sa sk := RdT.chg hG hGX hq
 refine ref07_flat.ok _ _ _ _ _ _ _ _ _ ?_
 unfold ref07_flat.vc
 have hn := ho.len
 have hpos := T.size_pos t
 intro w1 B1 hN1 hE1
 refine ⟨fun k n x a b w' => k = t.kind ∧ n = t.name ∧ x = t.text ∧ b = Sl.nil ∧ Own [] w' a 2 47 (t.attrs.map ac), fun k n x a b w' w'' hE ⟨h1, h2, h3, h4, h5⟩ => ⟨h1, h2, h3, h4, h5.ext hE⟩, fun w' hE => ?_, ?_⟩
 ·refine Ret.mono (refBare (hr.ext (hE1.trans hE)) (by omega)) ?_
  rintro v w'' ⟨h1, s, rfl, h2⟩
  exact ⟨h1, _, _, _, s, Sl.nil, rfl, rfl, rfl, rfl, rfl, h2.less (by simp)⟩
 rintro w2 _ _ _ a _ B2 hE2 ⟨rfl, rfl, rfl, rfl, ha⟩ hB2 _ hbox
 have hE02 : Ext w w2 := hE1.trans hE2
 have hbox' : Box w2 B2 38 (rc ⟨par, dep, pl, t⟩ a sa sk 0 0) := hbox
 have ho2 : Own (B1 :: A) w2 l 15 38 vs := (ho.ext hE02).cons (fun hm => by have := (ho.blk _ hm).2; have := hN1.ge; omega)
 refine App.runK Try.underlying31 ti_38 rfl (by decide) (.inl ho2) (fun b hb => ?_) (Own.one (A := []) hbox' (by simp)).row (ones_rc _ _ _ _ _ _) (by simp) (by simp only [maxLen, List.length_singleton]; omega) (by simp only [List.length_singleton]; omega) (by simp) fun s3 w3 ho3 hC3 hb3 => ⟨s3, rfl, fun w4 hE4 => ?_⟩
 ·have h1 := hN1.lt; have h2 := hE2.size; have h3 := hE02.size
  rcases List.mem_cons.1 hb with rfl | hb
  ·omega
  ·have := hA b hb; omega
 have ha3 : Own [] w3 a 2 47 (t.attrs.map ac) := ha.keep hC3 fun b hb hm => (ho2.apart ha (by decide)) b (Sl.own_blk hm) hb
 have hC04 : Chg l.own w w4 := ((hE02.mono (by simp)).more' hC3 (fun b hb => .inl hb)).more hE4
 have hnk := hr.nkids
 have hszk := T.size_eq t
 have hkln := T.kids_len t
 refine ⟨fun s h i w' => ∃ (k : Nat) (rows : List (List Value)), i = (k : Int) ∧ k ≤ t.kids.length ∧ h = (((t.kids.take k).map T.depth).foldr max 0 : Nat) ∧ Own (B1 :: A) w' s 15 38 (vs ++ rc ⟨par, dep, pl, t⟩ a sa sk 0 0 :: rows) ∧ Own [] w' a 2 47 (t.attrs.map ac) ∧ RIs (RdT [] wq) w' (kidsE (t.kids.take k) (vs.length + 1) vs.length (dep + 1) 0) rows ∧ Chg l.own w w' ∧ (∀ b ∈ s.blk, b ∈ l.own ∨ w.heap.size ≤ b) ∧ w4.heap.size ≤ w'.heap.size, fun _ _ i _ => t.kids.length - i.toNat,
  ⟨0, [], rfl, by omega, rfl, by simpa using ho3.ext hE4, ha3.ext hE4, ⟨rfl, fun i e u h => by simp [kidsE_nil] at h⟩, hC04, fun b hb => (hb3 b hb).imp id (fun h => Nat.le_trans hE02.size h), Nat.le_refl _⟩, ?_⟩
 rintro s5 _ _ w5 ⟨k, rows, rfl, hk, rfl, ho5, ha5, hR5, hC5, hb5, hsz5⟩
 have hrl : rows.length = ((t.kids.take k).map T.size).sum := by rw [hR5.1, kidsE_len]
 have hn5 := ho5.len
 simp only [List.length_append, List.length_cons] at hn5
 have hsum : ((t.kids.take k).map T.size).sum ≤ (t.kids.map T.size).sum := sum_take_le T.size _ _
 refine ⟨fun hi => ?_, fun hi => ?_⟩
 ·have hk' : k < t.kids.length := by omega
  have hq5 : RdT (s5.own ++ (G ++ l.own)) wq t sa sk := hq.wide fun b hb => by
   rcases List.mem_append.1 hb with hb | hb
   ·exact (hb5 b (Sl.own_blk hb)).imp (hlX b) (Nat.le_trans hG.size)
   ·exact .inl ((List.mem_append.1 hb).elim (hGX b) (hlX b))
  have hG5 : Chg (G ++ l.own) wq w5 := (hG.mono fun b hb => List.mem_append_left _ hb).trans (hC5.mono fun b hb => List.mem_append_right _ hb)
  obtain ⟨p, sau, sku, hp, hpX, hcq, hru⟩ := hq5.kid hk'
  have hc := hcq.chg hG5 (by rw [Addr.add_block]; exact fun h => hpX (List.mem_append_right _ h))
  rw [Int.toNat_natCast]
  have hm := getD_mem (d := T.nul) hk'
  have hsk := sum_take T.size hk'
  have hs2 : ((t.kids.take (k + 1)).map T.size).sum ≤ (t.kids.map T.size).sum := sum_take_le T.size _ _
  refine ⟨⟨by omega, hi⟩, p, hp, _, _, _, sau, sku, hc, ⟨by omega, by omega⟩, ?_⟩
  have hkb := T.kid_bulk hm
  have hcall := ih _ hm (A := B1 :: A) (vs := vs ++ rc ⟨par, dep, pl, t⟩ a sa sk 0 0 :: rows) (vs.length : Int) (dep + 1) k hru hG5 (fun b hb => List.mem_append_right _ hb) ho5 (fun b hb => ?_) (fun b hb => List.mem_append_left _ hb) (by simp only [List.length_append, List.length_cons]; omega) (by omega) (by omega)
  ·have q1 : (l.n : Int) = (vs.length : Int) := by rw [hn]
   have q2 : (dep : Int) + 1 = ((dep + 1 : Nat) : Int) := by omega
   rw [q1, q2]
   refine CallK.chg (F := s5.own) hcall (fun b hb => ?_) ?_
   ·simp at hb; subst hb
    exact fun hm => (ho5.blk _ (Sl.own_blk hm)).1 (by simp)
   rintro v w6 hC6 ⟨s6, rows6, rfl, ho6, hb6, hR6⟩
   have hn6 := ho6.len
   have hl6 := hR6.1
   rw [T.ents_len] at hl6
   have hkp := T.size_pos (t.kids.getD k T.nul)
   simp only [List.length_append, List.length_cons] at hn6
   obtain ⟨p6, hp6, _, hc6, _⟩ := ho6.row.at_ s5.n (by simp only [List.length_append, List.length_cons]; omega)
   have hg : (vs ++ rc ⟨par, dep, pl, t⟩ a sa sk 0 0 :: rows ++ rows6).getD s5.n [] = rows6.getD 0 [] := by
    rw [List.getD_eq_getElem?_getD, List.getElem?_append_right (by simp only [List.length_append, List.length_cons]; omega), List.getD_eq_getElem?_getD]
    congr 2
    simp only [List.length_append, List.length_cons]; omega
   rw [hg] at hc6
   obtain ⟨u, hu⟩ : ∃ u, rows6[0]? = some u := ⟨_, List.getElem?_eq_getElem (by omega)⟩
   obtain ⟨a6, sa6, sk6, rfl, _⟩ := hR6.2 0 _ u (by rw [T.ents_eq]; rfl) hu
   rw [List.getD_eq_getElem?_getD, hu] at hc6
   refine ⟨s6, rfl, ⟨by omega, by omega⟩, p6, hp6, ((t.kids.getD k T.nul).depth : Int), hc6 3 _ rfl, ⟨by omega, by omega⟩, ⟨k + 1, rows ++ rows6, by omega, by omega, ?_, ?_, ?_, ?_, ?_, ?_, ?_⟩, ?_⟩
   ·have := max_take T.depth hk'
    rw [this]; omega
   ·have e : vs ++ rc ⟨par, dep, pl, t⟩ a sa sk 0 0 :: (rows ++ rows6) = (vs ++ rc ⟨par, dep, pl, t⟩ a sa sk 0 0 :: rows) ++ rows6 := by simp
    rw [e]; exact ho6
   ·exact ha5.keep hC6 fun b hb hm => (ho5.apart ha5 (by decide)) b (Sl.own_blk hm) hb
   ·have e1 : t.kids.take (k + 1) = t.kids.take k ++ [t.kids.getD k T.nul] := take_getD hk'
    rw [e1, kidsE_snoc]
    refine (hR5.keep ho5 hC6 (fun b hb => Sl.own_blk hb)).app ?_
    have e2 : (vs ++ rc ⟨par, dep, pl, t⟩ a sa sk 0 0 :: rows).length = vs.length + 1 + ((t.kids.take k).map T.size).sum := by
     simp only [List.length_append, List.length_cons]; omega
    have e3 : 0 + (t.kids.take k).length = k := by rw [List.length_take]; omega
    rw [e3, ← e2]; exact hR6
   ·exact hC5.more' hC6 fun b hb => hb5 b (Sl.own_blk hb)
   ·exact fun b hb => (hb6 b hb).elim (fun h => hb5 b (Sl.own_blk h)) (fun h => .inr (Nat.le_trans hC5.size h))
   ·exact Nat.le_trans hsz5 hC6.size
   ·dsimp only; omega
  ·rcases List.mem_cons.1 hb with rfl | hb
   ·have := hN1.lt; have := hE2.size; have := hC3.size; have := hE4.size; omega
   ·have := hA b hb; have := hC5.size; omega
 ·have hkl : k = t.kids.length := by omega
  subst hkl
  rw [List.take_of_length_le (Nat.le_refl _)] at hR5 hrl
  have hbi := T.size_bulk t
  obtain ⟨g, cur, hag, hgA, hg5, hcl, hct⟩ : ∃ g cur, s5.a = some ⟨g, 0, none⟩ ∧ g ∉ B1 :: A ∧ Box w5 g 38 cur ∧ cur.length = s5.c * 15 ∧ cur.take (s5.n * 15) = (vs ++ rc ⟨par, dep, pl, t⟩ a sa sk 0 0 :: rows).flatten := by
   rcases ho5.at_ with h1 | h1
   ·rw [h1] at hn5; simp [Sl.nil] at hn5
   ·exact h1
  have hcap := ho5.cap
  have hset : ∀ u u' : List Value, (vs ++ u :: rows).set vs.length u' = vs ++ u' :: rows := fun u u' => by simp
  have hget : ∀ u : List Value, (vs ++ u :: rows).getD vs.length [] = u := fun u => by simp [List.getD_eq_getElem?_getD]
  have hgs : ∀ b ∈ [g], b ∈ s5.blk := by simp [Sl.blk, hag]
  have hfm : ((t.kids.take t.kids.length).map T.depth).foldr max 0 + 1 = t.depth := by
   have hde := T.depth_eq t; rw [List.take_of_length_le (Nat.le_refl _)]; omega
  have hdb := T.depth_size t
  have hln : l.n = vs.length := hn
  refine ⟨⟨by omega, by omega⟩, ⟨by omega, by omega⟩, ⟨g, 0, none⟩, hag, g, vs.length * 15 + 1, 38, cur, by rw [hln]; simp [Addr.add_lit], hg5, by omega, by simp, fun w6 hC6 hB6 => ?_⟩
  have ho6 := ho5.put (o := 1) (us := [.int .i64 ((s5.n : Int) - (l.n : Int))]) hag hg5 (j := vs.length) (by simp) (by simp) hB6
  rw [hset, hget] at ho6
  have e6 : (s5.n : Int) - (l.n : Int) = ((t.size : Nat) : Int) := by omega
  rw [e6] at ho6
  have ho6' : Own (B1 :: A) w6 s5 15 38 (vs ++ rc ⟨par, dep, pl, t⟩ a sa sk t.size 0 :: rows) := ho6
  refine ⟨⟨by omega, by omega⟩, ⟨by omega, by omega⟩, ⟨g, 0, none⟩, hag, g, vs.length * 15 + 3, 38, _, by rw [hln]; simp [Addr.add_lit], hB6, by rw [putAt_len]; omega, by simp, fun w7 hC7 hB7 => ?_⟩
  have ho7 := ho6'.put (o := 3) (us := [.int .i64 (((((t.kids.take t.kids.length).map T.depth).foldr max 0 : Nat) : Int) + 1)]) hag hB6 (j := vs.length) (by simp) (by simp) hB7
  rw [hset, hget] at ho7
  have e7 : ((((t.kids.take t.kids.length).map T.depth).foldr max 0 : Nat) : Int) + 1 = ((t.depth : Nat) : Int) := by omega
  rw [e7] at ho7
  have ho7' : Own (B1 :: A) w7 s5 15 38 (vs ++ rc ⟨par, dep, pl, t⟩ a sa sk t.size t.depth :: rows) := ho7
  have ha7 : Own [] w7 a 2 47 (t.attrs.map ac) := (ha5.keep hC6 fun b hb hm => (ho5.apart ha5 (by decide)) b (hgs b hm) hb).keep hC7 fun b hb hm => (ho5.apart ha5 (by decide)) b (hgs b hm) hb
  refine ⟨(hC5.more' hC6 fun b hb => hb5 b (hgs b hb)).more' hC7 fun b hb => hb5 b (hgs b hb), s5, rc ⟨par, dep, pl, t⟩ a sa sk t.size t.depth :: rows, rfl, ho7'.less (fun b hb => List.mem_cons_of_mem _ hb), hb5, ?_⟩
  have hR7 := (hR5.keep ho5 hC6 hgs).keep ho6' hC7 hgs
  rw [T.ents_eq]
  refine ⟨by rw [List.length_cons, List.length_cons, hR7.1], fun i e u he hu => ?_⟩
  cases i with
  |zero =>
   simp only [List.getElem?_cons_zero, Option.some.injEq] at he hu
   subst he; subst hu
   exact ⟨a, sa, sk, rfl, ha7, hq.less (by simp)⟩
  |succ i =>
   rw [List.getElem?_cons_succ] at he hu
   exact hR7.2 i e u he hu
def RItemsQ (Q : T → Sl → Sl → Prop) (w : World) (s : Sl) (t : T) : Prop := ∃ rows : List (List Value), Own [] w s 15 38 rows ∧ RIs Q w t.flat rows
def RItems (w : World) (s : Sl) (t : T) : Prop := RItemsQ (fun _ _ _ => True) w s t
theorem RItemsQ.to {Q : T → Sl → Sl → Prop} {w : World} {s : Sl} {t : T} (h : RItemsQ Q w s t) : RItems w s t := by
 obtain ⟨rows, h1, h2, h3⟩ := h
 refine ⟨rows, h1, h2, fun i e u he hu => ?_⟩
 obtain ⟨a, sa, sk, e1, e2, _⟩ := h3 i e u he hu
 exact ⟨a, sa, sk, e1, e2, trivial⟩
theorem RItemsQ.ext {Q : T → Sl → Sl → Prop} {w w' : World} {s : Sl} {t : T} (h : RItemsQ Q w s t) (c : Ext w w') : RItemsQ Q w' s t := by
 obtain ⟨rows, h1, h2⟩ := h
 exact ⟨rows, h1.ext c, h2.ext c⟩
theorem RItems.ext {w w' : World} {s : Sl} {t : T} (h : RItems w s t) (c : Ext w w') : RItems w' s t := RItemsQ.ext h c
theorem RItems.len {w : World} {s : Sl} {t : T} (h : RItems w s t) : s.n = t.size := by
 obtain ⟨rows, h1, h2⟩ := h
 rw [h1.len, h2.1, T.flat_len]
theorem refFlatQ {X : List Nat} {t : T} (hb : t.bulk ≤ 400000000) {w : World} {sa sk : Sl} (hr : RdT X w t sa sk) :
  Calls Try.prog 11 #[tv t sa sk] w (Ret fun v w' => Ext w w' ∧ ∃ s : Sl, v = s.v ∧ RItemsQ (RdT [] w) w' s t ∧ ∀ b ∈ s.blk, w.heap.size ≤ b) := by
 refine ref07_Flat.ok _ _ _ _ _ ?_
 unfold ref07_Flat.vc
 intro w1 B hN hE
 have hsz := T.size_bulk t
 have hcall := refFlat t (A := []) (G := []) (vs := []) (-1) 0 0 hr hE (by simp) (Own.nil _ _ _ _) (by simp) (by simp [Sl.own, Sl.nil]) (by simp; omega) (by omega) (by omega)
 refine CallK.chg hcall (by simp [Sl.own, Sl.nil]) ?_
 rintro v w2 hC ⟨s, rows, rfl, ho, hbl, hR⟩
 have hC' : Ext w1 w2 := hC.mono (by simp [Sl.own, Sl.nil])
 refine ⟨s, rfl, hE.trans hC', s, rfl, ⟨rows, by simpa using ho, hR⟩, fun b hb => ?_⟩
 rcases hbl b hb with h | h
 ·simp [Sl.own, Sl.nil] at h
 ·exact Nat.le_trans hE.size h
theorem refFlat0 {X : List Nat} {t : T} (hb : t.bulk ≤ 400000000) {w : World} {sa sk : Sl} (hr : RdT X w t sa sk) :
  Calls Try.prog 11 #[tv t sa sk] w (Ret fun v w' => Ext w w' ∧ ∃ s : Sl, v = s.v ∧ RItems w' s t ∧ ∀ b ∈ s.blk, w.heap.size ≤ b) :=
 Ret.mono (refFlatQ hb hr) fun _ _ ⟨h1, s, h2, h3, h4⟩ => ⟨h1, s, h2, h3.to, h4⟩
end
section
open Go.RowKit
structure Cmp {α : Type} (c : α → α → Int) (P : α → Prop) : Prop where
 anti : ∀ x y, P x → P y → c x y = - c y x
 zero : ∀ x y, P x → P y → (c x y = 0 ↔ x = y)
 trans : ∀ x y z, P x → P y → P z → c x y ≤ 0 → c y z ≤ 0 → c x z ≤ 0
def cmpI (x y : Int) : Int := if x < y then -1 else if y < x then 1 else 0
theorem cmpI_cmp : Cmp cmpI (fun _ => True) where
 anti x y _ _ := by unfold cmpI; split <;> split <;> (try split) <;> omega
 zero x y _ _ := by unfold cmpI; split <;> (try split) <;> omega
 trans x y z _ _ _ h1 h2 := by
  unfold cmpI at *
  split at h1 <;> split at h2 <;> (try split at h1) <;> (try split at h2) <;> split <;> (try split) <;> omega
def lexM {α β : Type} (c : α → β → Int) : List α → List β → Int
 |[], [] => 0
 |[], _ :: _ => -1
 |_ :: _, [] => 1
 |x :: xs, y :: ys => if c x y = 0 then lexM c xs ys else c x y
theorem lexM_map {α β γ : Type} (c : α → β → Int) (g : γ → α) : ∀ (l : List γ) (m : List β), lexM c (l.map g) m = lexM (fun t u => c (g t) u) l m
 |[], [] => rfl
 |[], _ :: _ => rfl
 |_ :: _, [] => rfl
 |x :: xs, y :: ys => by simp only [List.map_cons, lexM, lexM_map c g xs ys]
theorem lexM_cmp {α : Type} {c : α → α → Int} {P : α → Prop} (h : Cmp c P) : Cmp (lexM c) (fun l => ∀ x ∈ l, P x) where
 anti := by
  intro xs
  induction xs with
  |nil => intro ys _ _; cases ys <;> rfl
  |cons x xs ih =>
   intro ys hx hy
   cases ys with
   |nil => rfl
   |cons y ys =>
    have a := h.anti x y (hx x (by simp)) (hy y (by simp))
    have i := ih ys (fun z hz => hx z (by simp [hz])) (fun z hz => hy z (by simp [hz]))
    simp only [lexM]
    split <;> split <;> omega
 zero := by
  intro xs
  induction xs with
  |nil => intro ys _ _; cases ys <;> simp [lexM]
  |cons x xs ih =>
   intro ys hx hy
   cases ys with
   |nil => simp [lexM]
   |cons y ys =>
    have a := h.zero x y (hx x (by simp)) (hy y (by simp))
    have i := ih ys (fun z hz => hx z (by simp [hz])) (fun z hz => hy z (by simp [hz]))
    simp only [lexM, List.cons.injEq]
    split
    ·rename_i hc; rw [i]; simp [a.1 hc]
    ·rename_i hc
     constructor
     ·intro hh; exact absurd hh hc
     ·intro hh; exact absurd (a.2 hh.1) hc
 trans := by
  intro xs
  induction xs with
  |nil => intro ys zs _ _ _ h1 h2; cases ys <;> cases zs <;> simp_all [lexM]
  |cons x xs ih =>
   intro ys zs hx hy hz h1 h2
   cases ys with
   |nil => simp [lexM] at h1
   |cons y ys =>
    cases zs with
    |nil => simp [lexM] at h2
    |cons z zs =>
     have px := hx x (by simp); have py := hy y (by simp); have pz := hz z (by simp)
     have t := h.trans x y z px py pz
     have z1 := h.zero x y px py; have z2 := h.zero y z py pz; have z3 := h.zero x z px pz
     have a1 := h.anti x y px py; have a2 := h.anti y z py pz
     have i := ih ys zs (fun q hq => hx q (by simp [hq])) (fun q hq => hy q (by simp [hq])) (fun q hq => hz q (by simp [hq]))
     simp only [lexM] at h1 h2 ⊢
     by_cases e1 : c x y = 0
     ·rw [if_pos e1] at h1
      have exy := z1.1 e1
      subst exy
      by_cases e2 : c x z = 0
      ·rw [if_pos e2] at h2 ⊢; exact i h1 h2
      ·rw [if_neg e2] at h2 ⊢; exact h2
     ·rw [if_neg e1] at h1
      by_cases e2 : c y z = 0
      ·have eyz := z2.1 e2
       subst eyz
       rw [if_neg e1]; exact h1
      ·rw [if_neg e2] at h2
       by_cases e3 : c x z = 0
       ·have exz := z3.1 e3
        subst exz
        omega
       ·rw [if_neg e3]; exact t h1 h2
def or2 (a b : Int) : Int := if a = 0 then b else a
theorem or2_cmp {α β γ : Type} {c : β → β → Int} {d : γ → γ → Int} {P : β → Prop} {Q : γ → Prop} (hc : Cmp c P) (hd : Cmp d Q) (f : α → β) (g : α → γ) (inj : ∀ x y, f x = f y → g x = g y → x = y) : Cmp (fun x y => or2 (c (f x) (f y)) (d (g x) (g y))) (fun x => P (f x) ∧ Q (g x)) where
 anti x y hx hy := by
  have a := hc.anti _ _ hx.1 hy.1; have b := hd.anti _ _ hx.2 hy.2
  unfold or2; split <;> split <;> omega
 zero x y hx hy := by
  have a := hc.zero _ _ hx.1 hy.1; have b := hd.zero _ _ hx.2 hy.2
  unfold or2
  split
  ·rename_i h; rw [b]; exact ⟨fun e => inj x y (a.1 h) e, fun e => by rw [e]⟩
  ·rename_i h; exact ⟨fun e => absurd e h, fun e => absurd (a.2 (by rw [e])) h⟩
 trans x y z hx hy hz h1 h2 := by
  have t1 := hc.trans _ _ _ hx.1 hy.1 hz.1; have t2 := hd.trans _ _ _ hx.2 hy.2 hz.2
  have z1 := hc.zero _ _ hx.1 hy.1; have z2 := hc.zero _ _ hy.1 hz.1; have z3 := hc.zero _ _ hx.1 hz.1
  have a2 := hc.anti _ _ hy.1 hz.1
  unfold or2 at *
  by_cases e1 : c (f x) (f y) = 0
  ·rw [if_pos e1] at h1
   have exy := z1.1 e1
   rw [exy] at *
   by_cases e2 : c (f y) (f z) = 0
   ·rw [if_pos e2] at h2 ⊢; exact t2 h1 h2
   ·rw [if_neg e2] at h2 ⊢; exact h2
  ·rw [if_neg e1] at h1
   by_cases e2 : c (f y) (f z) = 0
   ·have eyz := z2.1 e2
    rw [← eyz, if_neg e1]; exact h1
   ·rw [if_neg e2] at h2
    by_cases e3 : c (f x) (f z) = 0
    ·have exz := z3.1 e3
     rw [exz] at h1 e1; omega
    ·rw [if_neg e3]; exact t1 h1 h2
theorem pair_cmp {β γ : Type} {c : β → β → Int} {d : γ → γ → Int} {P : β → Prop} {Q : γ → Prop} (hc : Cmp c P) (hd : Cmp d Q) : Cmp (fun x y : β × γ => or2 (c x.1 y.1) (d x.2 y.2)) (fun x => P x.1 ∧ Q x.2) :=
 or2_cmp hc hd (fun x => x.1) (fun x => x.2) (fun _ _ h1 h2 => Prod.ext h1 h2)
def cmpB (a b : UInt8) : Int := cmpI (a.toNat : Int) (b.toNat : Int)
theorem cmpB_cmp : Cmp cmpB (fun _ => True) where
 anti x y _ _ := cmpI_cmp.anti _ _ trivial trivial
 zero x y _ _ := by
  unfold cmpB; rw [cmpI_cmp.zero _ _ trivial trivial]
  constructor
  ·intro h; exact UInt8.toNat_inj.1 (by omega)
  ·intro h; rw [h]
 trans x y z _ _ _ := cmpI_cmp.trans _ _ _ trivial trivial trivial
theorem compareBytes_lex : ∀ a b : Str, Lib.compareBytes a b = lexM cmpB a b
 |[], [] => rfl
 |[], _ :: _ => rfl
 |_ :: _, [] => rfl
 |x :: xs, y :: ys => by
  have ih := compareBytes_lex xs ys
  simp only [Lib.compareBytes, lexM, UInt8.lt_iff_toNat_lt]
  by_cases h1 : x.toNat < y.toNat
  ·have hv : cmpB x y = -1 := by unfold cmpB cmpI; rw [if_pos (by omega)]
   simp [hv, h1]
  ·by_cases h2 : y.toNat < x.toNat
   ·have hv : cmpB x y = 1 := by unfold cmpB cmpI; rw [if_neg (by omega), if_pos (by omega)]
    simp [hv, h1, h2]
   ·have hv : cmpB x y = 0 := by unfold cmpB cmpI; rw [if_neg (by omega), if_neg (by omega)]
    simp [hv, h1, h2, ih]
def cmpS (a b : Str) : Int := Lib.compareBytes a b
theorem cmpS_cmp : Cmp cmpS (fun _ => True) := by
 have e : cmpS = lexM cmpB := by funext a b; exact compareBytes_lex a b
 rw [e]
 have := lexM_cmp cmpB_cmp
 exact ⟨fun x y _ _ => this.anti x y (fun _ _ => trivial) (fun _ _ => trivial), fun x y _ _ => this.zero x y (fun _ _ => trivial) (fun _ _ => trivial), fun x y z _ _ _ => this.trans x y z (fun _ _ => trivial) (fun _ _ => trivial) (fun _ _ => trivial)⟩
def cmpA (p q : Str × Str) : Int := or2 (cmpS p.1 q.1) (cmpS p.2 q.2)
theorem cmpA_cmp : Cmp cmpA (fun _ => True) := by
 have := or2_cmp cmpS_cmp cmpS_cmp (fun p : Str × Str => p.1) (fun p => p.2) (fun x y h1 h2 => Prod.ext h1 h2)
 exact ⟨fun x y _ _ => this.anti x y ⟨trivial, trivial⟩ ⟨trivial, trivial⟩, fun x y _ _ => this.zero x y ⟨trivial, trivial⟩ ⟨trivial, trivial⟩, fun x y z _ _ _ => this.trans x y z ⟨trivial, trivial⟩ ⟨trivial, trivial⟩ ⟨trivial, trivial⟩⟩
def T.cmp : T → T → Int
 |.node k n x ats ks, u => or2 (or2 (or2 (cmpI k u.kind) (or2 (cmpS n u.name) (cmpS x u.text))) (lexM cmpA ats u.attrs)) (lexM (fun (t : { x // x ∈ ks }) v => T.cmp t.1 v) ks.attach u.kids)
termination_by t => SizeOf.sizeOf t
decreasing_by
 have := List.sizeOf_lt_of_mem t.2
 simp; omega
theorem T.cmp_eq (t u : T) : T.cmp t u = or2 (or2 (or2 (cmpI t.kind u.kind) (or2 (cmpS t.name u.name) (cmpS t.text u.text))) (lexM cmpA t.attrs u.attrs)) (lexM T.cmp t.kids u.kids) := by
 cases t with
 |node k n x ats ks =>
  rw [T.cmp]
  have := lexM_map (fun t v => T.cmp t v) (fun t : { x // x ∈ ks } => t.1) ks.attach u.kids
  rw [← this, List.attach_map_subtype_val]; rfl
theorem T.ext {t u : T} (h1 : t.kind = u.kind) (h2 : t.name = u.name) (h3 : t.text = u.text) (h4 : t.attrs = u.attrs) (h5 : t.kids = u.kids) : t = u := by
 cases t; cases u; cases h1; cases h2; cases h3; cases h4; cases h5; rfl
theorem T.cmp_cmp : ∀ n : Nat, Cmp T.cmp (fun t => t.size ≤ n) := by
 intro n
 induction n with
 |zero => exact ⟨fun x y hx => by rw [T.size_eq] at hx; omega, fun x y hx => by rw [T.size_eq] at hx; omega, fun x y z hx => by rw [T.size_eq] at hx; omega⟩
 |succ n ih =>
  have h1 := pair_cmp cmpS_cmp cmpS_cmp
  have h2 := pair_cmp cmpI_cmp h1
  have h3 := pair_cmp h2 (lexM_cmp cmpA_cmp)
  have h4 := pair_cmp h3 (lexM_cmp ih)
  have key : ∀ t : T, t.size ≤ n + 1 → (fun x : ((Int × Str × Str) × List (Str × Str)) × List T => ((fun _ => True) x.1.1.1 ∧ ((fun _ => True) x.1.1.2.1 ∧ (fun _ => True) x.1.1.2.2)) ∧ (∀ a ∈ x.1.2, True)) (((t.kind, t.name, t.text), t.attrs), t.kids) ∧ ∀ u ∈ t.kids, u.size ≤ n := fun t ht =>
   ⟨⟨⟨trivial, trivial, trivial⟩, fun _ _ => trivial⟩, fun u hu => by have := T.size_eq t; have := T.mem_sum T.size hu; omega⟩
  have e : ∀ t u : T, T.cmp t u = (fun x y : ((Int × Str × Str) × List (Str × Str)) × List T => or2 (or2 (or2 (cmpI x.1.1.1 y.1.1.1) (or2 (cmpS x.1.1.2.1 y.1.1.2.1) (cmpS x.1.1.2.2 y.1.1.2.2))) (lexM cmpA x.1.2 y.1.2)) (lexM T.cmp x.2 y.2)) (((t.kind, t.name, t.text), t.attrs), t.kids) (((u.kind, u.name, u.text), u.attrs), u.kids) := fun t u => T.cmp_eq t u
  exact ⟨fun x y hx hy => by rw [e, e]; exact h4.anti _ _ (key x hx) (key y hy), fun x y hx hy => by
   rw [e]
   refine (h4.zero _ _ (key x hx) (key y hy)).trans ⟨fun h => ?_, fun h => by rw [h]⟩
   simp only [Prod.mk.injEq] at h
   exact T.ext h.1.1.1 h.1.1.2.1 h.1.1.2.2 h.1.2 h.2, fun x y z hx hy hz => by rw [e, e, e]; exact h4.trans _ _ _ (key x hx) (key y hy) (key z hz)⟩
theorem T.cmp_zero (x y : T) : T.cmp x y = 0 ↔ x = y := (T.cmp_cmp (max x.size y.size)).zero x y (Nat.le_max_left _ _) (Nat.le_max_right _ _)
end
section
open Go.RowKit
theorem bytesLess_cmp : ∀ a b : Str, Op.bytesLess a b = decide (cmpS a b < 0)
 |[], [] => rfl
 |[], _ :: _ => rfl
 |_ :: _, [] => rfl
 |a :: x, b :: y => by
  have ih := bytesLess_cmp x y
  unfold cmpS at ih ⊢
  simp only [Op.bytesLess, Lib.compareBytes, ih]
  by_cases h1 : a < b
  ·simp [h1]
  ·by_cases h2 : b < a
   ·have : ¬ a = b := fun e => by subst e; exact h1 h2
    simp [h1, h2, this]
   ·have : a = b := by
     have e1 : ¬ a.toNat < b.toNat := h1
     have e2 : ¬ b.toNat < a.toNat := h2
     exact UInt8.toNat_inj.1 (by omega)
    simp [this]
theorem cmpS_zero (a b : Str) : cmpS a b = 0 ↔ a = b := cmpS_cmp.zero a b trivial trivial
def attrGet : List (Str × Str) → Str → Str × Bool
 |[], _ => ([], false)
 |p :: r, nm => if p.1 = nm then (p.2, true) else attrGet r nm
theorem treeAttr {A : List Nat} {w : World} {t : T} {sa sk : Sl} (h : RdT A w t sa sk) (nm : Str) :
  Calls Try.prog 65 #[tv t sa sk, .string (Bs nm)] w (Ret fun v w' => Ext w w' ∧ v = .tuple #[.string (Bs (attrGet t.attrs nm).1), .bool (attrGet t.attrs nm).2]) := by
 refine tree_Attr.ok _ _ _ _ _ _ ?_
 unfold tree_Attr.vc
 have hna := h.nattrs
 have hcp := h.caps
 simp only [maxLen] at hcp
 intro w1 B1 _ hE1
 refine ⟨fun i w2 => ∃ k : Nat, i = (k : Int) ∧ k ≤ t.attrs.length ∧ attrGet t.attrs nm = attrGet (t.attrs.drop k) nm ∧ Ext w w2, fun i _ => t.attrs.length - i.toNat, ⟨0, rfl, Nat.zero_le _, rfl, hE1⟩, ?_⟩
 rintro _ w2 ⟨k, rfl, hk, heq, hE⟩
 rw [Int.toNat_natCast]
 refine ⟨fun hi => ?_, fun hi => ⟨hE, ?_⟩⟩
 ·have hk' : k < t.attrs.length := by omega
  obtain ⟨p, hp, _, hc⟩ := (h.ext hE).attr hk'
  have hd : t.attrs.drop k = t.attrs.getD k ([], []) :: t.attrs.drop (k + 1) := by
   rw [List.drop_eq_getElem_cons hk', List.getD_eq_getElem?_getD, List.getElem?_eq_getElem hk']; rfl
  rw [hd] at heq
  generalize t.attrs.getD k ([], []) = q at hc heq
  obtain ⟨qn, qv⟩ := q
  refine ⟨⟨by omega, hi⟩, p, hp, qn, qv, hc, fun he w3 B3 _ hE3 => ⟨hE.trans hE3, ?_⟩, fun hne => ⟨⟨by omega, by omega⟩, fun w3 B3 _ hE3 => ⟨⟨k + 1, by omega, by omega, ?_, hE.trans hE3⟩, by dsimp only; omega⟩⟩⟩
  ·rw [heq, attrGet, if_pos he]
  ·rw [heq, attrGet, if_neg hne]
 ·have hkl : k = t.attrs.length := by omega
  subst hkl
  rw [heq, List.drop_length]; rfl
end
section
open Go.RowKit Go.MapKept
structure MapIs {κ : Type} (f : κ → Value) (d : TypeDesc) (w : World) (B : Nat) (m : List (κ × Value)) : Prop where
 at_ : ∃ es clock, w.heap[B]? = some (.map es clock) ∧ es.toList.map (fun e => (e.key, e.val)) = m.map fun p => (f p.1, p.2)
theorem MapIs.lt {κ : Type} {f : κ → Value} {d : TypeDesc} {w : World} {B : Nat} {m : List (κ × Value)} (h : MapIs f d w B m) : B < w.heap.size := by
 obtain ⟨es, clock, h1, _⟩ := h.at_
 exact (Array.getElem?_eq_some_iff.1 h1).1
theorem MapIs.chg {κ : Type} {f : κ → Value} {d : TypeDesc} {w w' : World} {F : List Nat} {B : Nat} {m : List (κ × Value)} (h : MapIs f d w B m) (c : Chg F w w') (hB : B ∉ F) : MapIs f d w' B m := by
 have hl := h.lt
 obtain ⟨es, clock, h1, h2⟩ := h.at_
 exact ⟨es, clock, by rw [c.block B hl hB]; exact h1, h2⟩
theorem MapIs.ext {κ : Type} {f : κ → Value} {d : TypeDesc} {w w' : World} {B : Nat} {m : List (κ × Value)} (h : MapIs f d w B m) (c : Ext w w') : MapIs f d w' B m := h.chg c (by simp)
theorem makeMap_run {κ : Type} {P : Program} {w : World} {bx : List Nat} {t : TypeId} {K : Value → World → Prop} (f : κ → Value) (d : TypeDesc) (k : ∀ B w', Ext w w' → w.heap.size ≤ B → MapIs f d w' B [] → K (.map (some B)) w') : RunK P (Instr.makeMap t none) w bx K := by
 have hr : (Instr.makeMap t none).run P w = .ok (.map (some w.heap.size)) (w.alloc (.map #[] 0)) := by
  simp [Instr.makeMap, Result.andThen]
 exact ⟨_, _, hr, (Ext.alloc _ _).noTouch _, (Ext.alloc _ _).size, k _ _ (Ext.alloc _ _) (Nat.le_refl _) ⟨#[], 0, heap_alloc_new w _, rfl⟩⟩
variable {κ : Type} [DecidableEq κ]
def mget (m : List (κ × Value)) (k : κ) : Option Value := (m.find? fun p => decide (p.1 = k)).map (·.2)
def mput (m : List (κ × Value)) (k : κ) (v : Value) : List (κ × Value) :=
 match m with
 |[] => [(k, v)]
 |p :: r => if p.1 = k then (k, v) :: r else p :: mput r k v
theorem mget_put (m : List (κ × Value)) (k j : κ) (v : Value) : mget (mput m k v) j = if j = k then some v else mget m j := by
 induction m with
 |nil =>
  by_cases h : j = k
  ·subst h; simp [mput, mget]
  ·have : ¬ k = j := fun e => h e.symm
   simp [mput, mget, h, this]
 |cons p r ih =>
  by_cases hp : p.1 = k
  ·rw [mput, if_pos hp]
   by_cases h : j = k
   ·subst h; simp [mget]
   ·have h1 : ¬ k = j := fun e => h e.symm
    have h2 : ¬ p.1 = j := fun e => h (e.symm.trans hp)
    simp [mget, h, h1, h2]
  ·rw [mput, if_neg hp]
   by_cases h : p.1 = j
   ·have h1 : ¬ j = k := fun e => hp (h.trans e)
    simp [mget, h, h1]
   ·have e1 : mget (p :: mput r k v) j = mget (mput r k v) j := by simp [mget, h]
    have e2 : mget (p :: r) j = mget r j := by simp [mget, h]
    rw [e1, e2, ih]
theorem find_of {f : κ → Value} {d : TypeDesc} (hf : ∀ x, IsKey d (f x)) (hi : ∀ x y, f x = f y → x = y) (k : κ) : ∀ (es : List MapEntry) (m : List (κ × Value)) (i : Nat), es.map (fun e => (e.key, e.val)) = m.map (fun p => (f p.1, p.2)) →
  (Instr.findNow d (f k) es i = some none ∧ mget m k = none ∧ (∀ v, m ++ [(k, v)] = mput m k v)) ∨ ∃ j v, Instr.findNow d (f k) es i = some (some (i + j, v)) ∧ mget m k = some v ∧ j < es.length ∧ (∃ e, es[j]? = some e ∧ e.key = f k) ∧ ∀ u, (es.modify j fun e => { e with key := f k, val := u }).map (fun e => (e.key, e.val)) = (mput m k u).map fun p => (f p.1, p.2)
 |[], [], i, _ => .inl ⟨rfl, rfl, fun _ => rfl⟩
 |[], _ :: _, i, h => by cases h
 |_ :: _, [], i, h => by cases h
 |e :: es, p :: m, i, h => by
  simp only [List.map_cons, List.cons.injEq, Prod.mk.injEq] at h
  obtain ⟨⟨hk, hv⟩, hr⟩ := h
  obtain ⟨r, hs, hiff⟩ := sameNow_of_keys (hf k) (hk ▸ hf p.1 : IsKey d e.key)
  cases r with
  |true =>
   have e1 : p.1 = k := hi _ _ (by rw [← hk]; exact (hiff.1 rfl).symm)
   refine .inr ⟨0, e.val, by simp [Instr.findNow, hs], by simp [mget, e1, hv], by simp, ⟨e, rfl, by rw [hk, e1]⟩, fun u => ?_⟩
   simp [mput, e1, hr]
  |false =>
   have e1 : ¬ p.1 = k := fun q => by have := hiff.2 (by rw [hk, q]); cases this
   rcases find_of hf hi k es m (i + 1) hr with ⟨h1, h2, h3⟩ | ⟨j, v, h1, h2, h3, h4, h5⟩
   ·refine .inl ⟨by simp [Instr.findNow, hs, h1], ?_, fun v => ?_⟩
    ·have : mget (p :: m) k = mget m k := by simp [mget, e1]
     rw [this, h2]
    ·rw [mput, if_neg e1, ← h3 v]; rfl
   ·refine .inr ⟨j + 1, v, by simp [Instr.findNow, hs, h1]; omega, ?_, by simp; omega, by simpa using h4, fun u => ?_⟩
    ·have : mget (p :: m) k = mget m k := by simp [mget, e1]
     rw [this, h2]
    ·rw [mput, if_neg e1]
     simp only [List.modify_succ_cons, List.map_cons]
     rw [h5 u, hk, hv]
theorem lookup_run {P : Program} {w : World} {B : Nat} {t kt et : TypeId} {d : TypeDesc} {f : κ → Value} {m : List (κ × Value)} {z : Value} (hf : ∀ x, IsKey d (f x)) (hi : ∀ x y, f x = f y → x = y) (ht : P.underlying t = some (.map kt et)) (hk : P.underlying kt = some d) (hz : (zeroValue et).run P w = .ok z w)
  (h : MapIs f d w B m) (k : κ) : (Instr.lookup t (.map (some B)) (f k) true).run P w = .ok (.tuple #[(mget m k).getD z, .bool (mget m k).isSome]) w ∧ (Instr.lookup t (.map (some B)) (f k) false).run P w = .ok ((mget m k).getD z) w := by
 obtain ⟨es, clock, hb, he⟩ := h.at_
 rcases find_of hf hi k es.toList m 0 he with ⟨h1, h2, _⟩ | ⟨j, v, h1, h2, _⟩
 ·rw [h2]
  constructor <;> simp [Instr.lookup, run_underlying ht, Go.MapKept.run_getObj_map hb, Go.MapKept.run_checkKey hk (hf k), Go.MapKept.run_findKey hk h1, hz, Result.andThen]
 ·rw [h2]
  constructor <;> simp [Instr.lookup, run_underlying ht, Go.MapKept.run_getObj_map hb, Go.MapKept.run_checkKey hk (hf k), Go.MapKept.run_findKey hk h1, Result.andThen]
theorem mapUpdate_run {P : Program} {w : World} {bx : List Nat} {B : Nat} {t kt et : TypeId} {d : TypeDesc} {f : κ → Value} {m : List (κ × Value)} {K : World → Prop} (hf : ∀ x, IsKey d (f x)) (hi : ∀ x y, f x = f y → x = y) (ht : P.underlying t = some (.map kt et)) (hk : P.underlying kt = some d)
  (h : MapIs f d w B m) (k : κ) (v : Value) (hbx : B ∉ bx) (kk : ∀ w', Chg [B] w w' → MapIs f d w' B (mput m k v) → K w') : RunU P (Instr.mapUpdate t (.map (some B)) (f k) v) w bx K := by
 obtain ⟨es, clock, hb, he⟩ := h.at_
 have chg : ∀ o, Chg [B] w { w with heap := w.heap.setIfInBounds B o } := fun o => ⟨rfl, rfl, rfl, by simp, fun i _ hi => by simp [Ne.symm (show i ≠ B by simpa using hi)]⟩
 have fin : ∀ es' clock', es'.toList.map (fun e => (e.key, e.val)) = (mput m k v).map (fun p => (f p.1, p.2)) → (Instr.mapUpdate t (.map (some B)) (f k) v).run P w = .ok () { w with heap := w.heap.setIfInBounds B (.map es' clock') } → RunU P (Instr.mapUpdate t (.map (some B)) (f k) v) w bx K := fun es' clock' h1 h2 =>
  ⟨_, h2, (chg _).noTouch _ (fun b hb hm => hbx (by simp at hm; rwa [← hm])), (chg _).size, kk _ (chg _) ⟨es', clock', (heap_set hb).1, h1⟩⟩
 rcases find_of hf hi k es.toList m 0 he with ⟨h1, h2, h3⟩ | ⟨j, u, h1, h2, hj, ⟨e, hje, hke⟩, h5⟩
 ·refine fin (es.push { key := f k, val := v, born := clock }) (clock + 1) ?_ ?_
  ·rw [Array.toList_push, List.map_append, he, ← h3 v]; simp
  ·simp [Instr.mapUpdate, run_underlying ht, Go.MapKept.run_getObj_map hb, Go.MapKept.run_checkKey hk (hf k), Go.MapKept.run_findKey hk h1, Go.MapKept.run_setObj_map _ hb, Result.andThen]
 ·have hj' : es[j]? = some e := by simpa using hje
  refine fin (es.modify j fun e => { e with key := f k, val := v }) clock ?_ ?_
  ·rw [Array.toList_modify]; exact h5 v
  ·simp [Instr.mapUpdate, run_underlying ht, Go.MapKept.run_getObj_map hb, Go.MapKept.run_checkKey hk (hf k), Go.MapKept.run_findKey hk h1, hj', hke, Go.MapKept.run_keyThatStays (hf k), Go.MapKept.run_setObj_map _ hb, Result.andThen]
end
section
open Go.RowKit Go.MapKept
def T.nd (t : T) (j : Nat) : En := t.flat.getD j ⟨0, 0, 0, T.nul⟩
theorem Items.cell {A : List Nat} {w : World} {a : Sl} {t : T} (h : Items A w a t) : a.n = t.size ∧ ∃ (p : Addr) (al : List Sl), a.a = some p ∧ ∀ j, j < t.size → Cells w (p.add (j * 10)) (itc (t.nd j) (al.getD j Sl.nil) (t.zAt j) (t.hAt j)) ∧ Row A w (al.getD j Sl.nil) 2 ((t.nd j).t.attrs.map ac) := by
 obtain ⟨al, hal, ho, hr⟩ := h
 have hpos := T.size_pos t
 have hfl := T.flat_len t
 obtain ⟨p, hp, _⟩ := ho.row.at_ 0 (by rw [icl_len]; omega)
 refine ⟨by rw [ho.len, icl_len, hfl], p, al, hp, fun j hj => ⟨?_, ?_⟩⟩
 ·have := ho.row.cells1 (i := j) (by rw [icl_len]; omega) hp
  rwa [icl_get _ _ _ _ (by omega)] at this
 ·refine hr j _ _ (t.flat_get hj) ?_
  rw [List.getD_eq_getElem?_getD, List.getElem?_eq_getElem (by omega)]; rfl
theorem Items.ext {A : List Nat} {w w' : World} {a : Sl} {t : T} (h : Items A w a t) (c : Ext w w') : Items A w' a t := by
 obtain ⟨al, hal, ho, hr⟩ := h
 exact ⟨al, hal, ho.ext c, fun i e a he ha => (hr i e a he ha).ext c⟩
theorem Items.chg {A F : List Nat} {w w' : World} {a : Sl} {t : T} (h : Items A w a t) (c : Chg F w w') (hF : ∀ b ∈ F, b ∈ A) : Items A w' a t := by
 obtain ⟨al, hal, ho, hr⟩ := h
 exact ⟨al, hal, ho.chg c hF, fun i e a he ha => (hr i e a he ha).chg c hF⟩
theorem Items.less {A A' : List Nat} {w : World} {a : Sl} {t : T} (h : Items A w a t) (hA : ∀ b ∈ A', b ∈ A) : Items A' w a t := by
 obtain ⟨al, hal, ho, hr⟩ := h
 exact ⟨al, hal, ho.less hA, fun i e a he ha => (hr i e a he ha).less hA⟩
theorem Items.fresh {A : List Nat} {w : World} {a : Sl} {t : T} (h : Items A w a t) {B : Nat} (hB : w.heap.size ≤ B) : Items (B :: A) w a t := by
 obtain ⟨al, hal, ho, hr⟩ := h
 exact ⟨al, hal, ho.fresh hB, fun i e a he ha => (hr i e a he ha).fresh (by decide) hB⟩
def intV (z : Int) : Value := .int .i64 z
def pc (p : Int × Int) : List Value := [.int .i64 p.1, .int .i64 p.2]
theorem keyInt (z : Int) : IsKey (.int .i64) (intV z) := rfl
theorem intV_inj (x y : Int) (h : intV x = intV y) : x = y := by injection h
theorem tiBool : TI Try.prog 4 (.bool false) 1 1 := TI.of (by kernel_rfl)
theorem tiInt : TI Try.prog 3 (.int .i64 0) 1 8 := TI.of (by kernel_rfl)
def chkL (x y : T) : Int → List (Int × Int) → List Int → Bool
 |_, [], _ => true
 |last, p :: r, seen => decide (last < p.1) && decide (p.1 < x.size) && decide (0 ≤ p.2) && decide (p.2 < y.size) && !(seen.contains p.2) && (decide ((x.nd p.1.toNat).t.kind = (y.nd p.2.toNat).t.kind ∧ (x.nd p.1.toNat).t.name = (y.nd p.2.toNat).t.name)) && chkL x y p.1 r (p.2 :: seen)
def chkP (x y : T) (l : List (Int × Int)) : Bool := x.check && y.check && decide (l.head? = some (0, 0)) && chkL x y (-1) l []
theorem matchOf {w : World} {e : En} {a : Sl} {z h : Nat} : Calls Try.prog 61 #[.agg (itc e a z h).toArray] w (Ret fun v w' => Ext w w' ∧ v = .agg #[.int .i64 e.t.kind, .string (Bs e.t.name)]) := by
 refine match_of.ok _ _ _ _ _ _ _ _ _ _ ?_
 unfold match_of.vc
 intro w1 B1 B2 _ _ _ hE
 exact ⟨hE, rfl⟩
theorem matchCheck {A : List Nat} {w : World} {a b : T} {sa sk ta tk l : Sl} {ps : List (Int × Int)} (ha : RdT A w a sa sk) (hb : RdT A w b ta tk) (hl : Row A w l 2 (ps.map pc)) (na : a.bulk ≤ 400000000) (nb : b.bulk ≤ 400000000) (np : ps.length ≤ 1000000000) :
  Calls Try.prog 36 #[tv a sa sk, tv b ta tk, l.v] w (Ret fun v w' => Ext w w' ∧ v = .bool (chkP a b ps)) := by
 refine match_Check.ok _ _ _ _ _ _ _ _ _ _ _ ?_
 unfold match_Check.vc
 have hln := hl.len
 rw [List.length_map] at hln
 intro w1 B1 B2 _ _ _ hE1
 refine CallK.exact (treeCheck a (by omega) (ha.ext hE1)) fun w2 hE2 => ⟨_, rfl, _, fun _ => treeCheck b (by omega) (hb.ext (hE1.trans hE2)), fun w3 hE3 => ?_⟩
 have hE03 := (hE1.trans hE2).trans hE3
 have pairAt : ∀ w', Ext w w' → ∀ k, k < ps.length → ∃ p, l.a = some p ∧ Cells w' (p.add (k * 2)) (pc (ps.getD k (0, 0))) := fun w' hE k hk => by
  obtain ⟨p, hp, _, hc, _⟩ := (hl.ext hE).at_ k (by simpa using hk)
  refine ⟨p, hp, ?_⟩
  have e : (ps.map pc).getD k [] = pc (ps.getD k (0, 0)) := by simp [List.getD_eq_getElem?_getD, hk]
  rwa [e] at hc
 refine ⟨l.a.getD ⟨0, 0, none⟩, fun hg => ?_, (ps.getD 0 (0, 0)).1, (ps.getD 0 (0, 0)).2, fun hg => ?_, fun hbad => ⟨hE03, ?_⟩, fun hg w4 hE4 => ?_⟩
 ·obtain ⟨p, hp, _⟩ := pairAt w3 hE03 0 (by omega)
  rw [hp]; exact ⟨⟨by omega, by omega⟩, rfl⟩
 ·obtain ⟨p, hp, hc⟩ := pairAt w3 hE03 0 (by omega)
  rw [hp]; exact hc
 ·congr 1
  unfold chkP
  cases ps with
  |nil => simp
  |cons q r =>
   simp only [List.length_cons] at hln
   rcases hbad with ((h | h) | h) | h
   ·rw [h]; rfl
   ·rw [h]; simp
   ·omega
   ·have : ¬ q = (0, 0) := fun e => h (by simp [e])
    simp [this]
 obtain ⟨⟨⟨hac, hbc⟩, hne⟩, h00⟩ := hg
 have hE04 := hE03.trans hE4
 have hhead : ps.head? = some (0, 0) := by
  cases ps with
  |nil => simp at hln; omega
  |cons q r =>
   simp at h00
   simp [Prod.ext_iff, h00]
 have hchk : chkP a b ps = chkL a b (-1) ps [] := by unfold chkP; rw [hac, hbc, hhead]; simp
 rw [hchk]
 refine ⟨fun s w' => Items [] w' s a, fun s w' w'' hE h => h.ext hE, fun w' hE => ?_, fun s w' => Items [] w' s b, fun s w' w'' hE h => h.ext hE, fun w' hE => ?_, ?_⟩
 ·refine Ret.mono (walkFlat (by omega) (ha.ext (hE04.trans hE))) ?_
  rintro v w'' ⟨h1, s, rfl, h2⟩
  exact ⟨h1, s, rfl, h2.less (by simp)⟩
 ·refine Ret.mono (walkFlat (by omega) (hb.ext (hE04.trans hE))) ?_
  rintro v w'' ⟨h1, s, rfl, h2⟩
  exact ⟨h1, s, rfl, h2.less (by simp)⟩
 intro w5 x y hE5 hX hY
 have hE05 := hE04.trans hE5
 refine makeMap_run intV (.int .i64) fun M w6 hE6 hM hMap => ⟨some M, rfl, fun last i w' => ∃ (k : Nat) (seen : List Int) (m : List (Int × Value)), i = (k : Int) ∧ k ≤ ps.length ∧ -1 ≤ last ∧ MapIs intV (.int .i64) w' M m ∧ (∀ z, (mget m z).getD (.bool false) = .bool (seen.contains z)) ∧ chkL a b (-1) ps [] = chkL a b last (ps.drop k) seen ∧ Chg [M] w5 w', fun _ i _ => ps.length - i.toNat,
  ⟨0, [], [], rfl, by omega, by omega, hMap, fun z => rfl, rfl, hE6.mono (by simp)⟩, ?_⟩
 rintro last _ w7 ⟨k, seen, m, rfl, hk, hlast, hMap7, hseen, heq, hC7⟩
 have hE07 : Ext w w7 := Chg.fresh hE05 hC7 (by simpa using Nat.le_trans hE05.size hM)
 have hX7 : Items [] w7 x a := ((hX.fresh hM).chg hC7 (by simp)).less (by simp)
 have hY7 : Items [] w7 y b := ((hY.fresh hM).chg hC7 (by simp)).less (by simp)
 refine ⟨fun hi => ?_, fun hi => ⟨hE07, ?_⟩⟩
 ·have hk' : k < ps.length := by omega
  obtain ⟨p, hp, hc⟩ := pairAt w7 hE07 k hk'
  have hdr : ps.drop k = ps.getD k (0, 0) :: ps.drop (k + 1) := by
   rw [List.drop_eq_getElem_cons hk', List.getD_eq_getElem?_getD, List.getElem?_eq_getElem hk']; rfl
  rw [hdr] at heq
  generalize ps.getD k (0, 0) = q at hc heq
  obtain ⟨qa, qb⟩ := q
  refine ⟨⟨by omega, hi⟩, p, hp, qa, qb, hc, fun w8 B8 hN8 hE8 => ?_⟩
  obtain ⟨hxn, px, alx, hpx, hxc⟩ := (hX7.ext hE8).cell
  obtain ⟨hyn, py, aly, hpy, hyc⟩ := (hY7.ext hE8).cell
  refine ⟨seen.contains qb, fun hg w' hE' => ?_, px, fun hg => ⟨⟨by omega, by omega⟩, hpx⟩, _, _, _, _, _, _, _, _, _, _, fun hg => (hxc qa.toNat (by omega)).1, fun kd nm _ => kd = (a.nd qa.toNat).t.kind ∧ nm = (a.nd qa.toNat).t.name, fun _ _ _ _ _ h => h, fun hg w' hE' => ?_, py, fun hg => ⟨⟨by omega, by omega⟩, hpy⟩, _, _, _, _, _, _, _, _, _, _, fun hg => (hyc qb.toNat (by omega)).1, fun kd nm _ => kd = (b.nd qb.toNat).t.kind ∧ nm = (b.nd qb.toNat).t.name, fun _ _ _ _ _ h => h, fun hg w' hE' => ?_, ?_⟩
  ·have := (lookup_run keyInt intV_inj Try.underlying107 Try.underlying3 (tiBool.zeroValue w') ((hMap7.ext hE8).ext hE') qb).2
   rw [hseen] at this; exact this
  ·exact Ret.mono matchOf fun v w'' ⟨h1, h2⟩ => ⟨h1, _, _, h2, rfl, rfl⟩
  ·exact Ret.mono matchOf fun v w'' ⟨h1, h2⟩ => ⟨h1, _, _, h2, rfl, rfl⟩
  intro w9 k1 n1 k2 n2 hE9 hV1 hV2
  have hE79 := hE8.trans hE9
  refine ⟨fun hbad => ⟨hE07.trans hE79, ?_⟩, fun hgood => ?_⟩
  ·rw [heq]
   congr 1
   rw [chkL]
   by_cases hg : (((¬ (qa ≤ last)) ∧ (¬ ((x.n : Int) ≤ qa))) ∧ (¬ (qb < 0))) ∧ (¬ ((y.n : Int) ≤ qb))
   ·by_cases hs : seen.contains qb = false
    ·obtain ⟨rfl, rfl⟩ := hV1 ⟨hg, hs⟩
     obtain ⟨rfl, rfl⟩ := hV2 ⟨hg, hs⟩
     have : ¬ ((a.nd qa.toNat).t.kind = (b.nd qb.toNat).t.kind ∧ (a.nd qa.toNat).t.name = (b.nd qb.toNat).t.name) := by
      rcases hbad with ((((h | h) | h) | h) | h) | h
      ·exact absurd h hg.1.1.1
      ·exact absurd h hg.1.1.2
      ·exact absurd h hg.1.2
      ·exact absurd h hg.2
      ·rw [hs] at h; cases h
      ·exact h
     rw [decide_eq_false this]; simp
    ·simp only [Bool.not_eq_false] at hs
     rw [hs]; simp
   ·have : (decide (last < qa) && decide (qa < (a.size : Int)) && decide (0 ≤ qb) && decide (qb < (b.size : Int))) = false := by
     rw [Bool.eq_false_iff]
     intro ht
     simp only [Bool.and_eq_true, decide_eq_true_eq] at ht
     exact hg (by omega)
    simp only [this, Bool.false_and]
  ·obtain ⟨⟨hg, hs⟩, hkn⟩ := hgood
   obtain ⟨rfl, rfl⟩ := hV1 ⟨hg, hs⟩
   obtain ⟨rfl, rfl⟩ := hV2 ⟨hg, hs⟩
   have hkn' := Classical.not_not.1 hkn
   refine mapUpdate_run keyInt intV_inj Try.underlying107 Try.underlying3 (hMap7.ext hE79) qb (.bool true) ?_ fun w10 hC10 hMap10 => ⟨⟨by omega, by omega⟩, ⟨k + 1, qb :: seen, _, by omega, by omega, by omega, hMap10, fun z => ?_, ?_, ?_⟩, by dsimp only; omega⟩
   ·have := hMap7.lt; have := hN8.ge
    simp; omega
   ·rw [mget_put]
    by_cases hz : z = qb
    ·subst hz; simp
    ·rw [if_neg hz, hseen]; simp [hz]
   ·rw [heq, chkL, hs, decide_eq_true hkn']
    have : (decide (last < qa) && decide (qa < (a.size : Int)) && decide (0 ≤ qb) && decide (qb < (b.size : Int))) = true := by
     simp only [Bool.and_eq_true, decide_eq_true_eq]; omega
    simp only [this]; simp
   ·exact (hC7.more hE79).trans hC10
 ·have hkl : k = ps.length := by omega
  subst hkl
  rw [heq, List.drop_length]; rfl
end
section
open Go.RowKit
theorem lexM_end {α β : Type} (c : α → β → Int) : ∀ (l : List α) (m : List β), (l = [] ∨ m = []) → lexM c l m = cmpI (l.length : Int) (m.length : Int)
 |[], [], _ => rfl
 |[], y :: ys, _ => by unfold lexM cmpI; rw [if_pos (by simp only [List.length_cons, List.length_nil]; omega)]
 |x :: xs, [], _ => by unfold lexM cmpI; rw [if_neg (by simp only [List.length_cons, List.length_nil]; omega), if_pos (by simp only [List.length_cons, List.length_nil]; omega)]
 |_ :: _, _ :: _, h => by simp at h
theorem or2_zero (a : Int) : or2 0 a = a := if_pos rfl
theorem or2_ne {a : Int} (b : Int) (h : a ≠ 0) : or2 a b = a := if_neg h
theorem lexM_step {α β : Type} (c : α → β → Int) (x : α) (y : β) (xs : List α) (ys : List β) : lexM c (x :: xs) (y :: ys) = or2 (c x y) (lexM c xs ys) := rfl
theorem drop_at {α : Type} (l : List α) (d : α) {k : Nat} (h : k < l.length) : l.drop k = l.getD k d :: l.drop (k + 1) := by
 rw [List.drop_eq_getElem_cons h, List.getD_eq_getElem?_getD, List.getElem?_eq_getElem h]; rfl
theorem lexM_exit {α β : Type} (c : α → β → Int) (l : List α) (m : List β) (x : Int) (k : Nat) (hl : k ≤ l.length) (hm : k ≤ m.length) (h : x ≠ 0 ∨ k = l.length ∨ k = m.length) : or2 x (lexM c (l.drop k) (m.drop k)) = or2 x (cmpI (l.length : Int) (m.length : Int)) := by
 by_cases hx : x = 0
 ·subst hx
  have hd : l.drop k = [] ∨ m.drop k = [] := by
   rcases h with h | h | h
   ·exact absurd rfl h
   ·left; rw [h]; exact List.drop_length
   ·right; rw [h]; exact List.drop_length
  rw [or2_zero, or2_zero, lexM_end c _ _ hd]
  simp only [List.length_drop, cmpI]
  have e1 : (((l.length - k : Nat) : Int) < ((m.length - k : Nat) : Int)) ↔ ((l.length : Int) < (m.length : Int)) := by omega
  have e2 : (((m.length - k : Nat) : Int) < ((l.length - k : Nat) : Int)) ↔ ((m.length : Int) < (l.length : Int)) := by omega
  simp only [e1, e2]
 ·rw [or2_ne _ hx, or2_ne _ hx]
end
section
open Go.RowKit
theorem take_snoc {α : Type} (l : List α) (d : α) {k : Nat} (h : k < l.length) : l.take (k + 1) = l.take k ++ [l.getD k d] := by
 rw [List.take_succ_eq_append_getElem h, List.getD_eq_getElem?_getD, List.getElem?_eq_getElem h]; rfl
def goL : List (Nat → Bool × Nat) → Nat → Bool × Nat
 |[], c => (true, c)
 |f :: r, c => if (f c).1 = true then goL r (f c).2 else (false, (f c).2)
def badAttr (p : Str × Str) : Bool := decide (200 < p.1.length) || decide (6000 < p.2.length)
def T.sm : T → Nat → Nat → Bool × Nat
 |.node _ n x ats ks, deep, c => if 400 < c + 1 ∨ 70 < deep ∨ 20 < ats.length ∨ 200 < n.length ∨ 6000 < x.length then (false, c + 1) else if ats.any badAttr = true then (false, c + 1)
  else goL (ks.attach.map fun ⟨t, _⟩ => fun c => T.sm t (deep + 1) c) (c + 1)
def T.small (t : T) : Bool := (t.sm 0 0).1
end
section
open Go.RowKit Go.MapKept
def zc (z : Int) : List Value := [.int .i64 z]
def wc (x : Str) : List Value := [.string (Bs x)]
theorem ones_zc (z : Int) : ∀ u ∈ [zc z].flatten, u.oneCell' = true := by intro u hu; simp [zc] at hu; subst hu; rfl
theorem ones_wc (x : Str) : ∀ u ∈ [wc x].flatten, u.oneCell' = true := by intro u hu; simp [wc] at hu; subst hu; rfl
theorem Row.zAt {A : List Nat} {w : World} {s : Sl} {xs : List Int} (h : Row A w s 1 (xs.map zc)) {k : Nat} (hk : k < xs.length) : ∃ p, s.a = some p ∧ w.cell? (p.add (k * 1)) = some (.int .i64 (xs.getD k 0)) := by
 obtain ⟨p, hp, _, hc, _⟩ := h.at_ k (by simpa using hk)
 have e : (xs.map zc).getD k [] = zc (xs.getD k 0) := by simp [List.getD_eq_getElem?_getD, hk]
 rw [e] at hc
 exact ⟨p, hp, by have := hc 0 _ rfl; rwa [Addr.add_zero'] at this⟩
theorem drop_eqZ {xs ys : List Int} {k : Nat} (hx : k < xs.length) (hy : k < ys.length) : (xs.drop k = ys.drop k) ↔ (xs.getD k 0 = ys.getD k 0 ∧ xs.drop (k + 1) = ys.drop (k + 1)) := by
 rw [List.drop_eq_getElem_cons hx, List.drop_eq_getElem_cons hy, List.cons.injEq]
 simp [List.getD_eq_getElem?_getD, hx, hy]
theorem slicesEqual {A B : List Nat} {w : World} {a b : Sl} {xs ys : List Int} (ha : Row A w a 1 (xs.map zc)) (hb : Row B w b 1 (ys.map zc)) :
  Calls Try.prog 40 #[a.v, b.v] w (Ret fun v w' => Ext w w' ∧ v = .bool (decide (xs = ys))) := by
 refine slices_Equal__int_int_.ok _ _ ?_
 unfold slices_Equal__int_int_.vc
 have hla := ha.len
 have hlb := hb.len
 have hma := ha.most
 have hca := ha.cap
 simp only [maxLen] at hma
 rw [List.length_map] at hla hlb
 refine ⟨fun hne => ⟨Chg.refl _ _, ?_⟩, fun he => ?_⟩
 ·rw [decide_eq_false]; intro e; rw [e] at hla; omega
 refine ⟨fun i w' => ∃ k : Nat, i = (k : Int) ∧ k ≤ xs.length ∧ (xs = ys ↔ xs.drop k = ys.drop k) ∧ Ext w w', fun i _ => xs.length - i.toNat, ⟨0, rfl, by omega, by simp, Chg.refl _ _⟩, ?_⟩
 rintro _ w2 ⟨k, rfl, hk, hiff, hE⟩
 refine ⟨fun hi w3 hE3 => ?_, fun hi => ⟨hE, ?_⟩⟩
 ·have hk' : k < xs.length := by omega
  have hky : k < ys.length := by omega
  obtain ⟨p, hp, hcp⟩ := ((ha.ext hE).ext hE3).zAt hk'
  obtain ⟨q, hq, hcq⟩ := ((hb.ext hE).ext hE3).zAt hky
  refine ⟨p, ⟨⟨by omega, by omega⟩, hp⟩, _, hcp, q, ⟨⟨by omega, by omega⟩, hq⟩, _, hcq, fun hne w4 hE4 => ⟨(hE.trans hE3).trans hE4, ?_⟩, fun heq => ⟨⟨by omega, by omega⟩, fun w4 hE4 => ⟨⟨k + 1, by omega, by omega, ?_, (hE.trans hE3).trans hE4⟩, by dsimp only; omega⟩⟩⟩
  ·rw [decide_eq_false]; intro e
   exact hne ((drop_eqZ hk' hky).1 (hiff.1 e)).1
  ·rw [hiff, drop_eqZ hk' hky]
   exact ⟨fun h => h.2, fun h => ⟨Classical.not_not.1 heq, h⟩⟩
 ·have hkl : k = xs.length := by omega
  subst hkl
  rw [decide_eq_true]
  rw [hiff, List.drop_length, List.drop_of_length_le (by omega)]
theorem lawSameInts {A B : List Nat} {w : World} {a b : Sl} {xs ys : List Int} (ha : Row A w a 1 (xs.map zc)) (hb : Row B w b 1 (ys.map zc)) :
  Calls Try.prog 23 #[a.v, b.v] w (Ret fun v w' => Ext w w' ∧ v = .bool (decide (xs = ys))) := by
 refine law00_SameInts.ok _ _ ?_
 unfold law00_SameInts.vc
 have hla := ha.len
 have hlb := hb.len
 have hma := ha.most
 have hca := ha.cap
 simp only [maxLen] at hma
 rw [List.length_map] at hla hlb
 refine ⟨fun hne => ⟨Chg.refl _ _, ?_⟩, fun he => ?_⟩
 ·rw [decide_eq_false]; intro e; rw [e] at hla; omega
 refine ⟨fun i w' => ∃ k : Nat, i = (k : Int) ∧ k ≤ xs.length ∧ (xs = ys ↔ xs.drop k = ys.drop k) ∧ Ext w w', fun i _ => xs.length - i.toNat, ⟨0, rfl, by omega, by simp, Chg.refl _ _⟩, ?_⟩
 rintro _ w2 ⟨k, rfl, hk, hiff, hE⟩
 refine ⟨fun hi w3 hE3 => ?_, fun hi => ⟨hE, ?_⟩⟩
 ·have hk' : k < xs.length := by omega
  have hky : k < ys.length := by omega
  obtain ⟨p, hp, hcp⟩ := ((ha.ext hE).ext hE3).zAt hk'
  obtain ⟨q, hq, hcq⟩ := ((hb.ext hE).ext hE3).zAt hky
  refine ⟨p, ⟨⟨by omega, by omega⟩, hp⟩, _, hcp, q, ⟨⟨by omega, by omega⟩, hq⟩, _, hcq, fun hne w4 hE4 => ⟨(hE.trans hE3).trans hE4, ?_⟩, fun heq => ⟨⟨by omega, by omega⟩, fun w4 hE4 => ⟨⟨k + 1, by omega, by omega, ?_, (hE.trans hE3).trans hE4⟩, by dsimp only; omega⟩⟩⟩
  ·rw [decide_eq_false]; intro e
   exact hne ((drop_eqZ hk' hky).1 (hiff.1 e)).1
  ·rw [hiff, drop_eqZ hk' hky]
   exact ⟨fun h => h.2, fun h => ⟨Classical.not_not.1 heq, h⟩⟩
 ·have hkl : k = xs.length := by omega
  subst hkl
  rw [decide_eq_true]
  rw [hiff, List.drop_length, List.drop_of_length_le (by omega)]
theorem Row.attrAt {Z : List Nat} {s : Sl} {l : List (Str × Str)} {w' : World} (h : Row Z w' s 2 (l.map ac)) {k : Nat} (hk : k < l.length) : ∃ p, s.a = some p ∧ Cells w' (p.add (k * 2)) (ac (l.getD k ([], []))) := by
 obtain ⟨p, hp, _, hc, _⟩ := h.at_ k (by simpa using hk)
 refine ⟨p, hp, ?_⟩
 have e : (l.map ac).getD k [] = ac (l.getD k ([], [])) := by simp [List.getD_eq_getElem?_getD, hk]
 rwa [e] at hc
def T.bare (t : T) : T := .node t.kind t.name t.text t.attrs []
theorem bare_rd {A : List Nat} {w : World} {t : T} {sa : Sl} (h : Row A w sa 2 (t.attrs.map ac)) : RdT A w t.bare sa Sl.nil := .mk [] h rfl (Row.nil _ _ _) (by simp)
def setKeep (l : List (Str × Str)) (p : Str × Str) : Bool := !((attrGet l p.1).2 && decide ((attrGet l p.1).1 = p.2))
def setOf (a b : List (Str × Str)) : List (Str × Str) := b.filter (setKeep a)
def unsetOf (a b : List (Str × Str)) : List Str := (a.filter fun p => !(attrGet b p.1).2).map (·.1)
theorem filter_take_succ {α : Type} (f : α → Bool) (d : α) {l : List α} {k : Nat} (h : k < l.length) : (l.take (k + 1)).filter f = (l.take k).filter f ++ (if f (l.getD k d) then [l.getD k d] else []) := by
 rw [take_snoc l d h, List.filter_append]
 congr 1
 generalize l.getD k d = x
 by_cases hf : f x = true
 ·rw [if_pos hf]; simp [hf]
 ·rw [if_neg hf]; simp [hf]
theorem slotsChanged {X Y : List Nat} {w : World} {a b : T} {sa sb : Sl} (ha : Row X w sa 2 (a.attrs.map ac)) (hb : Row Y w sb 2 (b.attrs.map ac)) (na : a.attrs.length ≤ 1000000000) (nb : b.attrs.length ≤ 1000000000) :
  Calls Try.prog 39 #[tv a.bare sa Sl.nil, tv b.bare sb Sl.nil] w (Ret fun v w' => Ext w w' ∧ ∃ se un : Sl, v = .agg #[.bool false, .bool (decide (a.text ≠ b.text)), se.v, un.v, .int .i64 0, Sl.nil.v] ∧
   Own (List.range w.heap.size) w' se 2 47 ((setOf a.attrs b.attrs).map ac) ∧ Own (List.range w.heap.size) w' un 1 9 ((unsetOf a.attrs b.attrs).map wc)) := by
 refine slots_changed.ok a.kind a.name a.text sa Sl.nil b.kind b.name b.text sb Sl.nil ?_
 unfold slots_changed.vc
 have hla := ha.len
 have hlb := hb.len
 rw [List.length_map] at hla hlb
 intro w1 B1 B2 B3 B4 hN1 hN2 hN3 hN4 _ _ _ _ _ h34 hE1
 have g1 := hN1.ge; have g2 := hN2.ge; have g3 := hN3.ge; have g4 := hN4.ge
 have l1 := hN1.lt; have l2 := hN2.lt; have l3 := hN3.lt; have l4 := hN4.lt
 have hAs : ∀ w' : World, w1.heap.size ≤ w'.heap.size → ∀ c ∈ B1 :: B2 :: B3 :: B4 :: List.range w.heap.size, c < w'.heap.size := fun w' hw c hc => by
  have := hE1.size
  simp only [List.mem_cons, List.mem_range] at hc
  rcases hc with rfl | rfl | rfl | rfl | hc <;> omega
 refine ⟨fun i c w' => ∃ k : Nat, i = (k : Int) ∧ k ≤ b.attrs.length ∧ Own (B1 :: B2 :: B3 :: B4 :: List.range w.heap.size) w' c 2 47 (((b.attrs.take k).filter (setKeep a.attrs)).map ac) ∧ w1.heap.size ≤ w'.heap.size ∧ Ext w w', fun i _ _ => b.attrs.length - i.toNat, ⟨0, rfl, by omega, Own.nil _ _ _ _, Nat.le_refl _, hE1⟩, ?_⟩
 rintro _ c w2 ⟨k, rfl, hk, hO, hsz, hE2⟩
 refine ⟨fun hi => ?_, fun hi => ?_⟩
 ·have hk' : k < b.attrs.length := by omega
  obtain ⟨p, hp, hc⟩ := (hb.ext hE2).attrAt hk'
  have hfs := filter_take_succ (setKeep a.attrs) ([], []) hk'
  generalize b.attrs.getD k ([], []) = q at hc hfs
  obtain ⟨qn, qv⟩ := q
  refine ⟨⟨by omega, hi⟩, p, hp, qn, qv, hc, fun w3 B5 hN5 hE3 => ?_⟩
  refine CallK.exact (treeAttr (bare_rd (ha.ext (hE2.trans hE3))) qn) fun w4 hE4 => ⟨_, _, rfl, fun hset => ?_, fun hno => ?_⟩
  ·intro w5 B6 hN6 hE5 hbox
   have hE25 := (hE3.trans hE4).trans hE5
   have hO5 : Own (B5 :: B1 :: B2 :: B3 :: B4 :: List.range w.heap.size) w5 c 2 47 _ := (hO.ext hE25).cons (fun hm => by have := (hO.blk _ hm).2; have := hN5.ge; omega)
   have hcn := hO.len
   rw [List.length_map] at hcn
   have hcl : ((b.attrs.take k).filter (setKeep a.attrs)).length ≤ k := Nat.le_trans (List.length_filter_le _ _) (by simp; omega)
   have hbox' : Box w5 B6 47 (ac (qn, qv)) := hbox
   have hkeep : setKeep a.attrs (qn, qv) = true := by
    unfold setKeep
    rcases hset with h | h
    ·rw [show (attrGet a.attrs qn).2 = false from h]; rfl
    ·rw [decide_eq_false (show ¬ (attrGet a.attrs qn).1 = qv from h)]; simp
   refine App.runK Try.underlying23 ti_47 rfl (by decide) (.inl hO5) (fun x hx => ?_) (Own.one (A := []) hbox' (by simp)).row (ones_ac _) (by simp) (by simp only [maxLen, List.length_singleton]; omega) (by simp only [List.length_singleton]; omega) (fun x hx => by simp at hx ⊢; omega) fun s' w6 ho6 hC6 hb6 => ⟨s', rfl, ⟨by omega, by omega⟩, fun w7 hC7 => ⟨⟨k + 1, by omega, by omega, ?_, ?_, ?_⟩, by dsimp only; omega⟩⟩
   ·rcases List.mem_cons.1 hx with rfl | hx
    ·exact Nat.lt_of_lt_of_le hN5.lt (hE4.trans hE5).size
    ·exact hAs w5 (Nat.le_trans hsz hE25.size) x hx
   ·rw [hfs, hkeep, if_pos rfl, List.map_append]
    exact (ho6.chg hC7 (by simp)).less fun x hx => List.mem_cons_of_mem _ hx
   ·have := hE25.size; have := hC6.size; have := hC7.size; omega
   ·have h6 : Ext w w6 := Chg.fresh (hE2.trans hE25) hC6 fun x hx => by
     have := (hO5.blk x (Sl.own_blk hx)).1
     simp at this; omega
    exact Chg.fresh h6 hC7 (by simpa using g4)
  ·have hkeep : setKeep a.attrs (qn, qv) = false := by
    unfold setKeep
    rw [show (attrGet a.attrs qn).2 = true from hno.1, show (attrGet a.attrs qn).1 = qv from Classical.not_not.1 hno.2]; simp
   refine ⟨⟨by omega, by omega⟩, ⟨k + 1, by omega, by omega, ?_, ?_, (hE2.trans hE3).trans hE4⟩, by dsimp only; omega⟩
   ·rw [hfs, hkeep]; simpa using (hO.ext (hE3.trans hE4))
   ·have := (hE3.trans hE4).size; omega
 have hkl : k = b.attrs.length := by omega
 subst hkl
 rw [List.take_of_length_le (Nat.le_refl _)] at hO
 refine ⟨fun i u w' => ∃ k : Nat, i = (k : Int) ∧ k ≤ a.attrs.length ∧ Own (B1 :: B2 :: B3 :: B4 :: List.range w.heap.size) w' u 1 9 ((((a.attrs.take k).filter fun p => !(attrGet b.attrs p.1).2).map (·.1)).map wc) ∧ Own (B1 :: B2 :: B3 :: B4 :: List.range w.heap.size) w' c 2 47 ((setOf a.attrs b.attrs).map ac) ∧ w1.heap.size ≤ w'.heap.size ∧ Ext w w', fun i _ _ => a.attrs.length - i.toNat, ⟨0, rfl, by omega, Own.nil _ _ _ _, hO, hsz, hE2⟩, ?_⟩
 rintro _ u w3 ⟨k, rfl, hk, hU, hO3, hsz3, hE3⟩
 refine ⟨fun hi => ?_, fun hi w4 hC4 => ?_⟩
 ·have hk' : k < a.attrs.length := by omega
  obtain ⟨p, hp, hc⟩ := (ha.ext hE3).attrAt hk'
  have hfs := filter_take_succ (fun p => !(attrGet b.attrs p.1).2) ([], []) hk'
  generalize a.attrs.getD k ([], []) = q at hc hfs
  obtain ⟨qn, qv⟩ := q
  refine ⟨⟨by omega, hi⟩, p, hp, qn, qv, hc, fun w4 B5 hN5 hE4 => ?_⟩
  refine CallK.exact (treeAttr (bare_rd (hb.ext (hE3.trans hE4))) qn) fun w5 hE5 => ⟨_, _, rfl, fun hset => ?_, fun hno => ?_⟩
  ·intro w6 B6 hN6 hE6 hbox
   have hE36 := (hE4.trans hE5).trans hE6
   have hU6 : Own (B5 :: B1 :: B2 :: B3 :: B4 :: List.range w.heap.size) w6 u 1 9 _ := (hU.ext hE36).cons (fun hm => by have := (hU.blk _ hm).2; have := hN5.ge; omega)
   have hun := hU.len
   rw [List.length_map, List.length_map] at hun
   have hul : ((a.attrs.take k).filter fun p => !(attrGet b.attrs p.1).2).length ≤ k := Nat.le_trans (List.length_filter_le _ _) (by simp; omega)
   have hbox' : Box w6 B6 9 (wc qn) := hbox
   refine App.runK Try.underlying41 ti_9 rfl (by decide) (.inl hU6) (fun x hx => ?_) (Own.one (A := []) hbox' (by simp)).row (ones_wc _) (by simp) (by simp only [maxLen, List.length_singleton]; omega) (by simp only [List.length_singleton]; omega) (fun x hx => by simp at hx ⊢; omega) fun s' w7 ho7 hC7 hb7 => ⟨s', rfl, ⟨by omega, by omega⟩, fun w8 hC8 => ⟨⟨k + 1, by omega, by omega, ?_, ?_, ?_, ?_⟩, by dsimp only; omega⟩⟩
   ·rcases List.mem_cons.1 hx with rfl | hx
    ·exact Nat.lt_of_lt_of_le hN5.lt (hE5.trans hE6).size
    ·exact hAs w6 (Nat.le_trans hsz3 hE36.size) x hx
   ·rw [hfs, show (!(attrGet b.attrs (qn, qv).1).2) = true by rw [show (attrGet b.attrs qn).2 = false from hset]; rfl, if_pos rfl, List.map_append, List.map_append]
    exact (ho7.chg hC8 (by simp)).less fun x hx => List.mem_cons_of_mem _ hx
   ·have h6 := hO3.ext hE36
    exact ((h6.keep hC7 (fun x hx hm => (hU6.apart h6 (by decide)) x (Sl.own_blk hm) hx)).chg hC8 (by simp))
   ·have := hE36.size; have := hC7.size; have := hC8.size; omega
   ·have h7 : Ext w w7 := Chg.fresh (hE3.trans hE36) hC7 fun x hx => by
     have := (hU6.blk x (Sl.own_blk hx)).1
     simp at this; omega
    exact Chg.fresh h7 hC8 (by simpa using g4)
  ·refine ⟨⟨by omega, by omega⟩, ⟨k + 1, by omega, by omega, ?_, hO3.ext (hE4.trans hE5), ?_, (hE3.trans hE4).trans hE5⟩, by dsimp only; omega⟩
   ·rw [hfs, show (!(attrGet b.attrs (qn, qv).1).2) = false by rw [show (attrGet b.attrs qn).2 = true from hno]; rfl]; simpa using (hU.ext (hE4.trans hE5))
   ·have := (hE4.trans hE5).size; omega
 ·have hkl : k = a.attrs.length := by omega
  subst hkl
  rw [List.take_of_length_le (Nat.le_refl _)] at hU
  refine ⟨Chg.fresh hE3 hC4 (by simpa using g3), c, u, rfl, ?_, ?_⟩
  ·exact (hO3.chg hC4 (by simp)).less fun x hx => by simp at hx ⊢; omega
  ·exact (hU.chg hC4 (by simp)).less fun x hx => by simp at hx ⊢; omega
end
section
open Go.RowKit Go.MapKept
theorem made_list (cs : Array Value) : ∀ n : Nat, (madeCells cs (n * cs.size)).toList = (List.replicate n cs.toList).flatten := by
 intro n
 apply List.ext_getElem
 ·simp [madeCells, List.length_flatten]
 ·intro i h1 h2
  have hs : 0 < cs.size := by
   simp [madeCells] at h1
   rcases Nat.eq_zero_or_pos cs.size with h | h
   ·rw [h] at h1; omega
   ·exact h
  have hm : i % cs.size < cs.size := Nat.mod_lt _ hs
  have hg := flatten_group (size := cs.size) (List.replicate n cs.toList) (fun u hu => by rw [(List.mem_replicate.1 hu).2]; simp) (i / cs.size) (by
   simp [madeCells] at h1 ⊢
   exact Nat.div_lt_of_lt_mul (by rwa [Nat.mul_comm] at h1))
  have hget : (List.replicate n cs.toList).getD (i / cs.size) [] = cs.toList := by
   have : i / cs.size < n := by
    simp [madeCells] at h1
    exact Nat.div_lt_of_lt_mul (by rwa [Nat.mul_comm] at h1)
   simp [List.getD_eq_getElem?_getD, List.getElem?_replicate, this]
  rw [hget] at hg
  have h3 := congrArg (fun l => l[i % cs.size]?) hg
  simp only [List.getElem?_take, List.getElem?_drop, if_pos hm] at h3
  rw [show i / cs.size * cs.size + i % cs.size = i by rw [Nat.mul_comm]; exact Nat.div_add_mod _ _, List.getElem?_eq_getElem h2, List.getElem?_eq_getElem (by simpa using hm)] at h3
  rw [Option.some.inj h3]
  simp [madeCells, hm]
theorem makeSlice_own {P : Program} {w : World} {A bx : List Nat} {t T : TypeId} {z : Value} {size bytes n : Nat} {K : Value → World → Prop} (ht : P.underlying t = some (.slice T)) (hi : TI P T z size bytes) (hzs : z.cells.size = size) (hn : n ≤ 1000000000) (hb : bytes * n ≤ 140737488355328) (hA : ∀ b ∈ A, b < w.heap.size)
  (k : ∀ w', Own A w' ⟨some ⟨w.heap.size, 0, none⟩, n, n⟩ size T (List.replicate n z.cells.toList) → Ext w w' → K (Sl.mk (some ⟨w.heap.size, 0, none⟩) n n).v w') :
  RunK P (Instr.makeSlice t (.int .i64 (n : Int)) (.int .i64 (n : Int))) w bx K := by
 obtain ⟨i, h1, h2, h3, h4⟩ := hi
 subst h3 h4
 have hb' : (i.bytes : Int) * (n : Int) ≤ 281474976710656 := by
  have h : ((i.bytes * n : Nat) : Int) ≤ 281474976710656 := by omega
  rwa [Int.natCast_mul] at h
 have hr := run_make (P := P) w t T i z ht h1 h2 .i64 .i64 (n : Int) (n : Int) (by omega) (by omega) hb' (by omega)
 simp only [Int.toNat_natCast] at hr
 have hE : Ext w (w.alloc (.cells (madeCells z.cells (n * i.size)) T)) := Ext.alloc _ _
 refine ⟨_, _, hr, hE.noTouch _, hE.size, k _ ⟨by simp, Nat.le_refl _, by simp [maxLen]; omega, fun u hu => ?_, .inr ⟨w.heap.size, (madeCells z.cells (n * i.size)).toList, rfl, fun hm => by have := hA _ hm; omega, ?_, ?_, ?_⟩⟩ hE⟩
 ·rw [(List.mem_replicate.1 hu).2]; simpa using hzs
 ·unfold Box; rw [heap_alloc_new]
 ·simp [madeCells]
 ·have := made_list z.cells n
  rw [hzs] at this
  rw [this, List.take_of_length_le]
  simp [List.length_flatten, hzs]
theorem Cells.drop {w : World} {p : Addr} {cs : List Value} (h : Cells w p cs) (n : Nat) : Cells w (p.add n) (cs.drop n) := fun j v hv => by
 rw [List.getElem?_drop] at hv
 rw [Addr.add_add]; exact h _ _ hv
structure SV where
 gone : Bool
 text : Bool
 set : List (Str × Str)
 unset : List Str
 up : Int
 kids : List Int
def slc (v : SV) (se un ki : Sl) : List Value := [.bool v.gone, .bool v.text, se.v, un.v, .int .i64 v.up, ki.v]
def sv0 : SV := ⟨false, false, [], [], 0, []⟩
def SlotAt (w : World) (v : SV) (row : List Value) : Prop := ∃ se un ki : Sl, row = slc v se un ki ∧ Own [] w se 2 47 (v.set.map ac) ∧ Own [] w un 1 9 (v.unset.map wc) ∧ Own [] w ki 1 3 (v.kids.map zc)
def Slots (A : List Nat) (w : World) (s : Sl) (vs : List SV) : Prop := ∃ rows : List (List Value), Own A w s 6 43 rows ∧ rows.length = vs.length ∧ ∀ (i : Nat) (v : SV) (row : List Value), vs[i]? = some v → rows[i]? = some row → SlotAt w v row
theorem SlotAt.ext {w w' : World} {v : SV} {row : List Value} (h : SlotAt w v row) (c : Ext w w') : SlotAt w' v row := by
 obtain ⟨se, un, ki, h1, h2, h3, h4⟩ := h
 exact ⟨se, un, ki, h1, h2.ext c, h3.ext c, h4.ext c⟩
theorem Slots.ext {A : List Nat} {w w' : World} {s : Sl} {vs : List SV} (h : Slots A w s vs) (c : Ext w w') : Slots A w' s vs := by
 obtain ⟨rows, h1, h2, h3⟩ := h
 exact ⟨rows, h1.ext c, h2, fun i v row hv hr => (h3 i v row hv hr).ext c⟩
theorem Slots.len {A : List Nat} {w : World} {s : Sl} {vs : List SV} (h : Slots A w s vs) : s.n = vs.length := by
 obtain ⟨rows, h1, h2, h3⟩ := h
 rw [h1.len, h2]
theorem Slots.at {A : List Nat} {w : World} {s : Sl} {vs : List SV} (h : Slots A w s vs) {i : Nat} (hi : i < vs.length) : ∃ (p : Addr) (se un ki : Sl), s.a = some p ∧ Cells w (p.add (i * 6)) (slc (vs.getD i sv0) se un ki) ∧ Own [] w se 2 47 ((vs.getD i sv0).set.map ac) ∧ Own [] w un 1 9 ((vs.getD i sv0).unset.map wc) ∧ Own [] w ki 1 3 ((vs.getD i sv0).kids.map zc) := by
 obtain ⟨rows, h1, h2, h3⟩ := h
 obtain ⟨p, hp, _, hc, _⟩ := h1.row.at_ i (by omega)
 have hr : rows[i]? = some (rows.getD i []) := by rw [List.getD_eq_getElem?_getD, List.getElem?_eq_getElem (by omega)]; rfl
 have hv : vs[i]? = some (vs.getD i sv0) := by rw [List.getD_eq_getElem?_getD, List.getElem?_eq_getElem hi]; rfl
 obtain ⟨se, un, ki, e, h4, h5, h6⟩ := h3 i _ _ hv hr
 rw [e] at hc
 exact ⟨p, se, un, ki, hp, hc, h4, h5, h6⟩
def toF : List (Int × Int) → Int → Option Int
 |[], _ => none
 |p :: r, i => match toF r i with
  |some j => some j
  |none => if p.1 = i then some p.2 else none
theorem toF_snoc (l : List (Int × Int)) (q : Int × Int) (i : Int) : toF (l ++ [q]) i = if i = q.1 then some q.2 else toF l i := by
 induction l with
 |nil =>
  simp only [List.nil_append, toF]
  by_cases h : i = q.1
  ·rw [if_pos h, if_pos h.symm]
  ·rw [if_neg h, if_neg (fun e => h e.symm)]
 |cons p r ih =>
  rw [List.cons_append, toF, ih]
  by_cases h : i = q.1
  ·rw [if_pos h, if_pos h]
  ·rw [if_neg h, if_neg h]; rfl
theorem toF_mem : ∀ {l : List (Int × Int)} {i j : Int}, toF l i = some j → (i, j) ∈ l
 |p :: r, i, j, h => by
  rw [toF] at h
  split at h
  ·rename_i x hx
   cases h
   exact List.mem_cons_of_mem _ (toF_mem hx)
  ·split at h
   ·rename_i hp
    cases h; subst hp
    exact List.mem_cons_self ..
   ·cases h
def swapP (p : Int × Int) : Int × Int := (p.2, p.1)
def num (ps : List (Int × Int)) (k : Int) : Int := match toF (ps.map swapP) k with
 |some i => i
 |none => -2 - k
theorem chkL_vals {x y : T} : ∀ {ps : List (Int × Int)} {last : Int} {seen : List Int}, chkL x y last ps seen = true → ∀ p ∈ ps, last < p.1 ∧ p.1 < x.size ∧ 0 ≤ p.2 ∧ p.2 < y.size
 |p :: r, last, seen, h, q, hq => by
  rw [chkL] at h
  simp only [Bool.and_eq_true, decide_eq_true_eq] at h
  rcases List.mem_cons.1 hq with rfl | hq
  ·exact ⟨h.1.1.1.1.1.1, h.1.1.1.1.1.2, h.1.1.1.1.2, h.1.1.1.2⟩
  ·have := chkL_vals h.2 q hq
   exact ⟨by have := h.1.1.1.1.1.1; omega, this.2⟩
theorem chkP_vals {x y : T} {ps : List (Int × Int)} (h : chkP x y ps = true) : ∀ p ∈ ps, 0 ≤ p.1 ∧ p.1 < x.size ∧ 0 ≤ p.2 ∧ p.2 < y.size := fun p hp => by
 unfold chkP at h
 simp only [Bool.and_eq_true] at h
 have := chkL_vals h.2 p hp
 omega
def slotOf (o x : T) (ps : List (Int × Int)) (i : Nat) : SV := match toF ps i with
 |none => ⟨true, false, [], [], 0, []⟩
 |some j => ⟨false, decide ((o.nd i).t.text ≠ (x.nd j.toNat).t.text), setOf (o.nd i).t.attrs (x.nd j.toNat).t.attrs, unsetOf (o.nd i).t.attrs (x.nd j.toNat).t.attrs, if 0 ≤ (x.nd j.toNat).par then num ps (x.nd j.toNat).par else -1, (x.kidsAt j.toNat).map fun k : Nat => num ps (k : Int)⟩
def slotsOf (o x : T) (ps : List (Int × Int)) : List SV := (List.range o.size).map (slotOf o x ps)
theorem slotsNum {w : World} {B M : Nat} {m : List (Int × Value)} {ps : List (Int × Int)} (hB : w.cell? ⟨B, 0, none⟩ = some (.map (some M))) (hM : MapIs intV (.int .i64) w M m) (hm : ∀ k, mget m k = (toF (ps.map swapP) k).map intV) {k : Int} (h0 : 0 ≤ k) (h1 : k ≤ 1000000000) :
  Calls Try.prog 38 #[.int .i64 k, .pointer (some ⟨B, 0, none⟩)] w (Ret fun v w' => Ext w w' ∧ v = .int .i64 (num ps k)) := by
 refine slots_Of_1.ok _ _ ?_
 unfold slots_Of_1.vc
 have hl := (lookup_run keyInt intV_inj Try.underlying81 Try.underlying3 (tiInt.zeroValue w) hM k).1
 rw [hm] at hl
 unfold num
 cases ht : toF (ps.map swapP) k with
 |none =>
  rw [ht] at hl
  exact ⟨some M, hB, 0, false, hl, fun h => (by cases h), fun _ => ⟨⟨by omega, by omega⟩, Chg.refl _ _, rfl⟩⟩
 |some i =>
  rw [ht] at hl
  exact ⟨some M, hB, i, true, hl, fun _ => ⟨Chg.refl _ _, rfl⟩, fun h => by cases h⟩
end
section
open Go.RowKit Go.MapKept
def Done (o x : T) (ps : List (Int × Int)) (N : Nat) (w : World) (i : Nat) (row : List Value) : Prop := ∃ se un ki : Sl, row = slc (slotOf o x ps i) se un ki ∧ Own [] w se 2 47 ((slotOf o x ps i).set.map ac) ∧ Own [] w un 1 9 ((slotOf o x ps i).unset.map wc) ∧ Own [] w ki 1 3 ((slotOf o x ps i).kids.map zc) ∧ ∀ b ∈ ki.blk, b < N
theorem Done.mono {o x : T} {ps : List (Int × Int)} {N N' : Nat} {w : World} {i : Nat} {row : List Value} (h : Done o x ps N w i row) (hN : N ≤ N') : Done o x ps N' w i row := by
 obtain ⟨se, un, ki, h1, h2, h3, h4, h5⟩ := h
 exact ⟨se, un, ki, h1, h2, h3, h4, fun b hb => Nat.lt_of_lt_of_le (h5 b hb) hN⟩
theorem Done.ext {o x : T} {ps : List (Int × Int)} {N : Nat} {w w' : World} {i : Nat} {row : List Value} (h : Done o x ps N w i row) (c : Ext w w') : Done o x ps N w' i row := by
 obtain ⟨se, un, ki, h1, h2, h3, h4, h5⟩ := h
 exact ⟨se, un, ki, h1, h2.ext c, h3.ext c, h4.ext c, h5⟩
structure OfSt (o x : T) (ps : List (Int × Int)) (g : Nat) (r : Sl) (wb : World) (N k : Nat) (row : List Value) (w : World) : Prop where
 chg : Chg [g] wb w
 low : wb.heap.size ≤ N
 high : N ≤ w.heap.size
 rows : ∃ rows : List (List Value), Own [] w r 6 43 rows ∧ rows.length = o.size ∧ rows.getD k [] = row ∧ (∀ i, i < k → Done o x ps N w i (rows.getD i [])) ∧ (∀ i, k < i → i < o.size → rows.getD i [] = slc sv0 Sl.nil Sl.nil Sl.nil)
theorem OfSt.ext {o x : T} {ps : List (Int × Int)} {g : Nat} {r : Sl} {wb : World} {N k : Nat} {row : List Value} {w w' : World} (h : OfSt o x ps g r wb N k row w) (c : Ext w w') : OfSt o x ps g r wb N k row w' := by
 obtain ⟨rows, h1, h2, h3, h4, h5⟩ := h.rows
 exact ⟨h.chg.more c, h.low, Nat.le_trans h.high c.size, rows, h1.ext c, h2, h3, fun i hi => (h4 i hi).ext c, h5⟩
theorem OfSt.kids {o x : T} {ps : List (Int × Int)} {g : Nat} {r : Sl} {wb : World} {N k : Nat} {row : List Value} {w w' : World} {F : List Nat} {ki : Sl} {us : List (List Value)} (h : OfSt o x ps g r wb N k row w) (hk : Own [] w ki 1 3 us) (c : Chg F w w') (hF : ∀ b ∈ F, b ∈ ki.blk ∧ N ≤ b) : OfSt o x ps g r wb N k row w' := by
 obtain ⟨rows, h1, h2, h3, h4, h5⟩ := h.rows
 refine ⟨h.chg.more' c fun b hb => .inr (Nat.le_trans h.low (hF b hb).2), h.low, Nat.le_trans h.high c.size, rows, h1.keep c (fun b hb hm => (h1.apart hk (by decide)) b hb (hF b hm).1), h2, h3, fun i hi => ?_, h5⟩
 obtain ⟨se, un, k2, e, a1, a2, a3, a4⟩ := h4 i hi
 exact ⟨se, un, k2, e, a1.keep c (fun b hb hm => (a1.apart hk (by decide)) b hb (hF b hm).1), a2.keep c (fun b hb hm => (a2.apart hk (by decide)) b hb (hF b hm).1), a3.keep c (fun b hb hm => by have := a4 b hb; have := (hF b hm).2; omega), a4⟩
theorem OfSt.put {o x : T} {ps : List (Int × Int)} {g : Nat} {r : Sl} {wb : World} {N k : Nat} {row : List Value} {w : World} (h : OfSt o x ps g r wb N k row w) (hk : k < o.size) (hag : r.a = some ⟨g, 0, none⟩) :
  ∃ cur, Box w g 43 cur ∧ (k + 1) * 6 ≤ cur.length ∧ ∀ (w' : World) (us : List Value) (o' : Nat), o' + us.length ≤ 6 → Chg [g] w w' → Box w' g 43 (putAt cur (k * 6 + o') us) → OfSt o x ps g r wb N k (putAt row o' us) w' := by
 obtain ⟨rows, h1, h2, h3, h4, h5⟩ := h.rows
 have hn := h1.len
 have hc := h1.cap
 obtain ⟨cur, hg, hcl, hct⟩ : ∃ cur, Box w g 43 cur ∧ cur.length = r.c * 6 ∧ cur.take (r.n * 6) = rows.flatten := by
  rcases h1.at_ with e | ⟨g', cur, e1, _, e3, e4, e5⟩
  ·rw [e] at hag; cases hag
  ·rw [hag] at e1; cases e1; exact ⟨cur, e3, e4, e5⟩
 have hgb : ∀ b ∈ [g], b ∈ r.blk := by simp [Sl.blk, hag]
 refine ⟨cur, hg, by omega, fun w' us o' ho' hC hB => ⟨h.chg.trans hC, h.low, Nat.le_trans h.high hC.size, ?_⟩⟩
 have hput := h1.put (o := o') (us := us) hag hg (j := k) (by omega) ho' hB
 refine ⟨_, hput, by simpa using h2, ?_, fun i hi => ?_, fun i hi hi' => ?_⟩
 ·rw [List.getD_eq_getElem?_getD, List.getElem?_set_self (by omega), h3]; rfl
 ·rw [List.getD_eq_getElem?_getD, List.getElem?_set_ne (by omega), ← List.getD_eq_getElem?_getD]
  obtain ⟨se, un, k2, e, a1, a2, a3, a4⟩ := h4 i hi
  exact ⟨se, un, k2, e, a1.keep hC (fun b hb hm => (h1.apart a1 (by decide)) b (hgb b hm) hb), a2.keep hC (fun b hb hm => (h1.apart a2 (by decide)) b (hgb b hm) hb), a3.keep hC (fun b hb hm => (h1.apart a3 (by decide)) b (hgb b hm) hb), a4⟩
 ·rw [List.getD_eq_getElem?_getD, List.getElem?_set_ne (by omega), ← List.getD_eq_getElem?_getD]
  exact h5 i hi hi'
theorem OfSt.keep {o x : T} {ps : List (Int × Int)} {g : Nat} {r : Sl} {wb : World} {N k : Nat} {row : List Value} {w w' : World} (h : OfSt o x ps g r wb N k row w) (hag : r.a = some ⟨g, 0, none⟩) (c : Chg [g] w w') {A : List Nat} {s : Sl} {size : Nat} {S : TypeId} {us : List (List Value)} (hs : Own A w s size S us) (hne : 43 ≠ S) : Own A w' s size S us := by
 obtain ⟨rows, h1, _⟩ := h.rows
 exact hs.keep c fun b hb hm => (h1.apart hs hne) b (by simp at hm; simp [Sl.blk, hag, hm]) hb
theorem OfSt.cells {o x : T} {ps : List (Int × Int)} {g : Nat} {r : Sl} {wb : World} {N k : Nat} {row : List Value} {w : World} (h : OfSt o x ps g r wb N k row w) (hk : k < o.size) (hag : r.a = some ⟨g, 0, none⟩) : r.n = o.size ∧ Cells w ((⟨g, 0, none⟩ : Addr).add (k * 6)) row := by
 obtain ⟨rows, h1, h2, h3, _⟩ := h.rows
 refine ⟨by rw [h1.len, h2], ?_⟩
 have := h1.row.cells1 (i := k) (by omega) hag
 rwa [h3] at this
def OfHd (o x : T) (ps : List (Int × Int)) (g : Nat) (r : Sl) (wb : World) (k : Nat) (w : World) : Prop := Chg [g] wb w ∧ ∃ rows : List (List Value), Own [] w r 6 43 rows ∧ rows.length = o.size ∧ (∀ i, i < k → Done o x ps w.heap.size w i (rows.getD i [])) ∧ (∀ i, k ≤ i → i < o.size → rows.getD i [] = slc sv0 Sl.nil Sl.nil Sl.nil)
theorem OfHd.in {o x : T} {ps : List (Int × Int)} {g : Nat} {r : Sl} {wb : World} {k : Nat} {w : World} (h : OfHd o x ps g r wb k w) (hk : k < o.size) : OfSt o x ps g r wb w.heap.size k (slc sv0 Sl.nil Sl.nil Sl.nil) w := by
 obtain ⟨hc, rows, h1, h2, h3, h4⟩ := h
 exact ⟨hc, hc.size, Nat.le_refl _, rows, h1, h2, h4 k (Nat.le_refl _) hk, h3, fun i hi hi' => h4 i (by omega) hi'⟩
theorem OfSt.out {o x : T} {ps : List (Int × Int)} {g : Nat} {r : Sl} {wb : World} {N k : Nat} {w : World} {se un ki : Sl} (h : OfSt o x ps g r wb N k (slc (slotOf o x ps k) se un ki) w) (h1 : Own [] w se 2 47 ((slotOf o x ps k).set.map ac)) (h2 : Own [] w un 1 9 ((slotOf o x ps k).unset.map wc)) (h3 : Own [] w ki 1 3 ((slotOf o x ps k).kids.map zc)) : OfHd o x ps g r wb (k + 1) w := by
 obtain ⟨rows, a1, a2, a3, a4, a5⟩ := h.rows
 refine ⟨h.chg, rows, a1, a2, fun i hi => ?_, fun i hi hi' => a5 i (by omega) hi'⟩
 by_cases e : i = k
 ·subst e
  rw [a3]
  exact ⟨se, un, ki, rfl, h1, h2, h3, fun b hb => (h3.blk b hb).2⟩
 ·exact (a4 i (by omega)).mono h.high
theorem Items.cellF {A : List Nat} {w : World} {a : Sl} {t : T} (h : Items A w a t) : a.n = t.size ∧ ∃ (p : Addr) (al : List Sl), a.a = some p ∧ ∀ (w' : World) (F : List Nat), Chg F w w' → (∀ b ∈ F, b ∈ A) → ∀ j, j < t.size → Cells w' (p.add (j * 10)) (itc (t.nd j) (al.getD j Sl.nil) (t.zAt j) (t.hAt j)) ∧ Row [] w' (al.getD j Sl.nil) 2 ((t.nd j).t.attrs.map ac) := by
 obtain ⟨al, hal, ho, hr⟩ := h
 have hpos := T.size_pos t
 have hfl := T.flat_len t
 obtain ⟨p, hp, _⟩ := ho.row.at_ 0 (by rw [icl_len]; omega)
 refine ⟨by rw [ho.len, icl_len, hfl], p, al, hp, fun w' F c hF j hj => ⟨?_, ?_⟩⟩
 ·have := (ho.chg c hF).row.cells1 (i := j) (by rw [icl_len]; omega) hp
  rwa [icl_get _ _ _ _ (by omega)] at this
 ·refine ((hr j _ _ (t.flat_get hj) ?_).chg c hF).less (by simp)
  rw [List.getD_eq_getElem?_getD, List.getElem?_eq_getElem (by omega)]; rfl
theorem take_map_snoc {α β : Type} (f : α → β) (l : List α) (d : α) {k : Nat} (h : k < l.length) : (l.take (k + 1)).map f = (l.take k).map f ++ [f (l.getD k d)] := by
 rw [take_snoc l d h, List.map_append]; rfl
theorem slotsOfC {A : List Nat} {w : World} {o x : T} {sa sk ta tk l : Sl} {ps : List (Int × Int)} (ho : RdT A w o sa sk) (hx : RdT A w x ta tk) (hl : Row A w l 2 (ps.map pc)) (no : o.bulk ≤ 400000000) (nx : x.bulk ≤ 400000000) (np : ps.length ≤ 400000000) :
  Calls Try.prog 12 #[tv o sa sk, tv x ta tk, l.v] w (Ret fun v w' => Ext w w' ∧ ((chkP o x ps = false ∧ v = .tuple #[Sl.nil.v, .int .i64 1]) ∨ (chkP o x ps = true ∧ ∃ s : Sl, v = .tuple #[s.v, .int .i64 0] ∧ Slots (List.range w.heap.size) w' s (slotsOf o x ps)))) := by
 refine slots_Of.ok _ _ _ _ _ _ _ _ _ _ _ ?_
 unfold slots_Of.vc
 have hln := hl.len
 rw [List.length_map] at hln
 have hso := T.size_bulk o
 have hsx := T.size_bulk x
 intro w1 B1 B2 _ _ _ hE1
 refine CallK.exact (matchCheck (ho.ext hE1) (hx.ext hE1) (hl.ext hE1) no nx (by omega)) fun w2 hE2 => ⟨_, rfl, fun hf => ⟨hE1.trans hE2, .inl ⟨hf, rfl⟩⟩, fun ht w3 hE3 => ?_⟩
 have hE03 := (hE1.trans hE2).trans hE3
 have hvals := chkP_vals ht
 refine ⟨fun s w' => Items [] w' s o, fun s w' w'' hE h => h.ext hE, fun w' hE => ?_, fun s w' => Items [] w' s x, fun s w' w'' hE h => h.ext hE, fun w' hE => ?_, ?_⟩
 ·refine Ret.mono (walkFlat (by omega) (ho.ext (hE03.trans hE))) ?_
  rintro v w'' ⟨h1, s, rfl, h2⟩
  exact ⟨h1, s, rfl, h2.less (by simp)⟩
 ·refine Ret.mono (walkFlat (by omega) (hx.ext (hE03.trans hE))) ?_
  rintro v w'' ⟨h1, s, rfl, h2⟩
  exact ⟨h1, s, rfl, h2.less (by simp)⟩
 intro w4 ra rb hE4 hX hY
 have hE04 := hE03.trans hE4
 refine makeMap_run intV (.int .i64) fun M1 w5 hE5 hM1 hMap1 => ⟨some M1, rfl, makeMap_run intV (.int .i64) fun M2 w6 hE6 hM2 hMap2 => ⟨some M2, rfl, fun w7 B3 hN3 hE7 => ?_⟩⟩
 have hM12 : M1 < M2 := Nat.lt_of_lt_of_le hMap1.lt hM2
 have hE47 := (hE5.trans hE6).trans hE7
 have hE07 := hE04.trans hE47
 have pairAt : ∀ w', Ext w w' → ∀ k, k < ps.length → ∃ p, l.a = some p ∧ Cells w' (p.add (k * 2)) (pc (ps.getD k (0, 0))) := fun w' hE k hk => by
  obtain ⟨p, hp, _, hc, _⟩ := (hl.ext hE).at_ k (by simpa using hk)
  refine ⟨p, hp, ?_⟩
  have e : (ps.map pc).getD k [] = pc (ps.getD k (0, 0)) := by simp [List.getD_eq_getElem?_getD, hk]
  rwa [e] at hc
 have hM1w : w.heap.size ≤ M1 := Nat.le_trans hE04.size hM1
 refine ⟨fun i w' => ∃ (k : Nat) (m1 m2 : List (Int × Value)), i = (k : Int) ∧ k ≤ ps.length ∧ MapIs intV (.int .i64) w' M1 m1 ∧ MapIs intV (.int .i64) w' M2 m2 ∧ (∀ z, mget m1 z = (toF (ps.take k) z).map intV) ∧ (∀ z, mget m2 z = (toF ((ps.take k).map swapP) z).map intV) ∧ Chg [M1, M2] w7 w', fun i _ => ps.length - i.toNat,
  ⟨0, [], [], rfl, by omega, (hMap1.ext hE6).ext hE7, hMap2.ext hE7, fun z => rfl, fun z => rfl, Chg.refl _ _⟩, ?_⟩
 rintro _ w8 ⟨k, m1, m2, rfl, hk, hm1, hm2, hg1, hg2, hC8⟩
 have hE08 : Ext w w8 := Chg.fresh hE07 hC8 (fun b hb => by simp at hb; rcases hb with rfl | rfl <;> omega)
 refine ⟨fun hi => ?_, fun hi => ?_⟩
 ·have hk' : k < ps.length := by omega
  obtain ⟨p, hp, hc⟩ := pairAt w8 hE08 k hk'
  have t1 := take_snoc ps (0, 0) hk'
  have t2 := take_map_snoc swapP ps (0, 0) hk'
  generalize ps.getD k (0, 0) = q at hc t1 t2
  obtain ⟨qa, qb⟩ := q
  refine ⟨⟨by omega, hi⟩, p, hp, qa, qb, hc, fun w9 B4 hN4 hE9 => ?_⟩
  have hb1 : M1 ∉ [B3, B4] := by
   have := hN3.ge; have := hMap1.lt; have := hMap2.lt; have := hE6.size; have := hm1.lt; have := hN4.ge; simp; omega
  have hb2 : M2 ∉ [B3, B4] := by
   have := hN3.ge; have := hMap2.lt; have := hm2.lt; have := hN4.ge; simp; omega
  refine mapUpdate_run keyInt intV_inj Try.underlying81 Try.underlying3 (hm1.ext hE9) qa (intV qb) hb1 fun w10 hC10 hm10 w11 hE11 => ?_
  have hm2' := ((hm2.ext hE9).chg hC10 (by simp; omega)).ext hE11
  refine mapUpdate_run keyInt intV_inj Try.underlying81 Try.underlying3 hm2' qb (intV qa) hb2 fun w12 hC12 hm12 => ⟨⟨by omega, by omega⟩, ⟨k + 1, _, _, by omega, by omega, (hm10.ext hE11).chg hC12 (by simp; omega), hm12, fun z => ?_, fun z => ?_, ?_⟩, by dsimp only; omega⟩
  ·rw [mget_put, hg1, t1, toF_snoc]
   by_cases h : z = qa
   ·rw [if_pos h, if_pos h]; rfl
   ·rw [if_neg h, if_neg h]
  ·rw [mget_put, hg2, t2, toF_snoc]
   by_cases h : z = qb
   ·rw [if_pos h, if_pos (show z = (swapP (qa, qb)).1 from h)]; rfl
   ·rw [if_neg h, if_neg (show ¬ z = (swapP (qa, qb)).1 from h)]
  ·exact (((hC8.more hE9).trans (hC10.mono (by simp))).more hE11).trans (hC12.mono (by simp))
 have hkl : k = ps.length := by omega
 subst hkl
 rw [List.take_of_length_le (Nat.le_refl _)] at hg1 hg2
 have hX8 : Items [] w8 ra o := ((((hX.fresh (Nat.le_trans hE5.size hM2)).fresh hM1).ext hE47).chg hC8 (by simp)).less (by simp)
 have hY8 : Items [] w8 rb x := ((((hY.fresh (Nat.le_trans hE5.size hM2)).fresh hM1).ext hE47).chg hC8 (by simp)).less (by simp)
 have hna := hX8.cell.1
 rw [hna]
 refine makeSlice_own (A := []) Try.underlying33 ti_43 rfl (by omega) (by omega) (by simp) fun wb hOwn hE9 => ⟨_, rfl, fun hBox => ?_⟩
 have hE0b : Ext w wb := hE08.trans hE9
 have hg8 : w.heap.size ≤ w8.heap.size := hE08.size
 have hXb : Items [w8.heap.size] wb ra o := (hX8.fresh (Nat.le_refl _)).ext hE9
 have hYb : Items [w8.heap.size] wb rb x := (hY8.fresh (Nat.le_refl _)).ext hE9
 have hgM1 : M1 ∉ [w8.heap.size] := by have := hm1.lt; simp; omega
 have hgM2 : M2 ∉ [w8.heap.size] := by have := hm2.lt; simp; omega
 have hgB3 : B3 ∉ [w8.heap.size] := by have := hN3.lt; have := hC8.size; simp; omega
 have hm1b := hm1.ext hE9
 have hm2b := hm2.ext hE9
 have hag : (Sl.mk (some ⟨w8.heap.size, 0, none⟩) o.size o.size).a = some ⟨w8.heap.size, 0, none⟩ := rfl
 have hxpos := T.size_pos x
 obtain ⟨hna', pa, ala, hpa, hca⟩ := hXb.cellF
 obtain ⟨hnb, pb, alb, hpb, hcb⟩ := hYb.cellF
 have itemO : ∀ w', Chg [w8.heap.size] wb w' → ∀ j, j < o.size → Cells w' (pa.add (j * 10)) (itc (o.nd j) (ala.getD j Sl.nil) (o.zAt j) (o.hAt j)) ∧ Row [] w' (ala.getD j Sl.nil) 2 ((o.nd j).t.attrs.map ac) := fun w' hc j hj => hca w' _ hc (by simp) j hj
 have itemX : ∀ w', Chg [w8.heap.size] wb w' → ∀ j, j < x.size → Cells w' (pb.add (j * 10)) (itc (x.nd j) (alb.getD j Sl.nil) (x.zAt j) (x.hAt j)) ∧ Row [] w' (alb.getD j Sl.nil) 2 ((x.nd j).t.attrs.map ac) := fun w' hc j hj => hcb w' _ hc (by simp) j hj
 have mapA : ∀ w', Chg [w8.heap.size] wb w' → MapIs intV (.int .i64) w' M1 m1 := fun w' hc => hm1b.chg hc hgM1
 have mapB : ∀ w', Chg [w8.heap.size] wb w' → MapIs intV (.int .i64) w' M2 m2 ∧ w'.cell? ⟨B3, 0, none⟩ = some (.map (some M2)) := fun w' hc => ⟨hm2b.chg hc hgM2, (hBox.keep hc hgB3).cell 0 _ rfl⟩
 have attrsLe : ∀ (t : T) (j : Nat), t.bulk ≤ 400000000 → j < t.size → (t.nd j).t.attrs.length ≤ 1000000000 := fun t j hb hj => by
  have h1 := T.flat_bulk t _ (List.mem_of_getElem? (t.flat_get hj))
  have h2 := T.slots_bulk (t.nd j).t
  have h3 := T.slots_eq (t.nd j).t
  have h4 : (t.nd j).t.bulk ≤ t.bulk := h1
  omega
 refine ⟨fun i w' => ∃ k : Nat, i = (k : Int) ∧ k ≤ o.size ∧ OfHd o x ps w8.heap.size ⟨some ⟨w8.heap.size, 0, none⟩, o.size, o.size⟩ wb k w', fun i _ => o.size - i.toNat,
  ⟨0, rfl, by omega, Chg.refl _ _, _, hOwn, by simp, fun i hi => by omega, fun i _ hi => by simp [List.getD_eq_getElem?_getD, List.getElem?_replicate, hi]; rfl⟩, ?_⟩
 rintro _ w9 ⟨k, rfl, hk, hHd⟩
 refine ⟨fun hi => ?_, fun hi => ?_⟩
 ·have hk' : k < o.size := by omega
  have hSt := hHd.in hk'
  have hN : w9.heap.size = w9.heap.size := rfl
  have hlk := (lookup_run keyInt intV_inj Try.underlying81 Try.underlying3 (tiInt.zeroValue w9) (mapA w9 hHd.1) (k : Int)).1
  rw [hg1] at hlk
  have hslot : slotOf o x ps k = _ := rfl
  unfold slotOf at hslot
  cases hto : toF ps (k : Int) with
  |none =>
   rw [hto] at hlk hslot
   refine ⟨0, false, hlk, fun _ => ?_, fun h => (by cases h)⟩
   obtain ⟨cur, hgb, hcl, hput⟩ := hSt.put hk' hag
   refine ⟨⟨by omega, by simp; omega⟩, _, hag, w8.heap.size, k * 6 + 0, 43, cur, by simp [Addr.add_lit], hgb, by omega, by simp, fun w10 hC10 hB10 => ⟨⟨by omega, by omega⟩, ⟨k + 1, by omega, by omega, ?_⟩, by dsimp only; omega⟩⟩
   have hS2 := hput w10 [.bool true] 0 (by simp) hC10 hB10
   have e : putAt (slc sv0 Sl.nil Sl.nil Sl.nil) 0 [.bool true] = slc (slotOf o x ps k) Sl.nil Sl.nil Sl.nil := by
    unfold slotOf; rw [hto]; rfl
   rw [e] at hS2
   refine hS2.out ?_ ?_ ?_ <;> (unfold slotOf; rw [hto]; exact Own.nil _ _ _ _)
  |some j =>
   rw [hto] at hlk
   have hjm := hvals _ (toF_mem hto)
   obtain ⟨j', rfl⟩ : ∃ j' : Nat, j = (j' : Int) := ⟨j.toNat, by omega⟩
   have hjx : j' < x.size := by simp only at hjm; omega
   refine ⟨(j' : Int), true, hlk, fun h => (by cases h), fun _ w10 hE10 => ?_⟩
   have hS10 := hSt.ext hE10
   obtain ⟨c1, r1⟩ := itemO w10 hS10.chg k hk'
   obtain ⟨c2, r2⟩ := itemX w10 hS10.chg j' hjx
   refine ⟨pa, ⟨⟨by omega, by omega⟩, hpa⟩, _, _, _, _, _, c1.drop 5, pb, ⟨⟨by omega, by omega⟩, hpb⟩, _, _, _, _, _, c2.drop 5, ?_⟩
   generalize htx : decide ((o.nd k).t.text ≠ (x.nd j').t.text) = tx
   generalize hse : setOf (o.nd k).t.attrs (x.nd j').t.attrs = SE
   generalize hun : unsetOf (o.nd k).t.attrs (x.nd j').t.attrs = UN
   generalize hup : (if 0 ≤ (x.nd j').par then num ps (x.nd j').par else -1) = UP
   refine ⟨fun gone text se un up ki w' => gone = false ∧ tx = text ∧ up = 0 ∧ ki = Sl.nil ∧ Own [] w' se 2 47 (SE.map ac) ∧ Own [] w' un 1 9 (UN.map wc), fun gone text se un up ki w' w'' hE ⟨h1, h2, h3, h4, h5, h6⟩ => ⟨h1, h2, h3, h4, h5.ext hE, h6.ext hE⟩, fun w' hE => ?_, ⟨w8.heap.size, 0, none⟩, ⟨⟨by omega, by simp; omega⟩, hag⟩, ?_⟩
   ·refine Ret.mono (slotsChanged (r1.ext hE) (r2.ext hE) (attrsLe o k no hk') (attrsLe x j' nx hjx)) ?_
    rintro v w'' ⟨h1, se, un, rfl, h2, h3⟩
    rw [htx, hse] at *
    rw [hun] at h3
    exact ⟨h1, _, _, se, un, _, _, rfl, rfl, rfl, rfl, rfl, h2.less (by simp), h3.less (by simp)⟩
   rintro w11 _ _ se un _ _ hE11 ⟨rfl, rfl, rfl, rfl, hSe, hUn⟩
   have hS11 := hS10.ext hE11
   obtain ⟨cur, hgb, hcl, hput⟩ := hS11.put hk' hag
   refine ⟨w8.heap.size, k * 6 + 0, 43, cur, by simp [Addr.add_lit], hgb, by omega, by simp, fun w12 hC12 hB12 => ⟨⟨by omega, by simp; omega⟩, _, hag, ?_⟩⟩
   have hS12 := hput w12 _ 0 (by simp) hC12 hB12
   have hSe12 := hS11.keep hag hC12 hSe (by decide)
   have hUn12 := hS11.keep hag hC12 hUn (by decide)
   obtain ⟨cur, hgb, hcl, hput⟩ := hS12.put hk' hag
   refine ⟨w8.heap.size, k * 6 + 4, 43, cur, by simp [Addr.add_lit], hgb, by omega, by simp, fun w13 hC13 hB13 => ?_⟩
   have hS13 : OfSt o x ps w8.heap.size ⟨some ⟨w8.heap.size, 0, none⟩, o.size, o.size⟩ wb w9.heap.size k [.bool false, .bool tx, se.v, un.v, .int .i64 (-1), Sl.nil.v] w13 := hput w13 _ 4 (by simp) hC13 hB13
   have hSe13 := hS12.keep hag hC13 hSe12 (by decide)
   have hUn13 := hS12.keep hag hC13 hUn12 (by decide)
   have hcp := (itemX w13 hS13.chg j' hjx).1
   have hpl : (x.nd j').par < j' := T.flat_lt x (x.flat_get hjx)
   refine ⟨⟨by omega, by omega⟩, pb, hpb, (x.nd j').par, hcp 0 _ rfl, fun w' => OfSt o x ps w8.heap.size ⟨some ⟨w8.heap.size, 0, none⟩, o.size, o.size⟩ wb w9.heap.size k [.bool false, .bool tx, se.v, un.v, .int .i64 UP, Sl.nil.v] w' ∧ Own [] w' se 2 47 (SE.map ac) ∧ Own [] w' un 1 9 (UN.map wc), ⟨fun h0 => ?_, fun h0 => ?_⟩, ?_⟩
   ·obtain ⟨hmB, hcB⟩ := mapB w13 hS13.chg
    refine CallK.exact (slotsNum hcB hmB hg2 h0 (by omega)) fun w14 hE14 => ⟨_, rfl, ⟨by omega, by simp; omega⟩, _, hag, ?_⟩
    have hS14 := hS13.ext hE14
    obtain ⟨cur, hgb, hcl, hput⟩ := hS14.put hk' hag
    refine ⟨w8.heap.size, k * 6 + 4, 43, cur, by simp [Addr.add_lit], hgb, by omega, by simp, fun w15 hC15 hB15 => ⟨?_, hS14.keep hag hC15 (hSe13.ext hE14) (by decide), hS14.keep hag hC15 (hUn13.ext hE14) (by decide)⟩⟩
    rw [← hup, if_pos h0]
    exact hput w15 _ 4 (by simp) hC15 hB15
   ·refine ⟨?_, hSe13, hUn13⟩
    rw [← hup, if_neg h0]; exact hS13
   rintro w16 ⟨hS16, hSe16, hUn16⟩
   have hzj := x.zAt_end hjx
   refine ⟨⟨by omega, by omega⟩, fun kk w' => ∃ (k' f : Nat) (us : List Nat) (ki : Sl), kk = (k' : Int) ∧ j' < k' ∧ x.size ≤ f + k' ∧ k' ≤ x.size ∧ us.length ≤ k' ∧ us ++ kidLoop x.zAt (j' + x.zAt j') f k' = x.kidsAt j' ∧ OfSt o x ps w8.heap.size ⟨some ⟨w8.heap.size, 0, none⟩, o.size, o.size⟩ wb w9.heap.size k [.bool false, .bool tx, se.v, un.v, .int .i64 UP, ki.v] w' ∧ Own [] w' se 2 47 (SE.map ac) ∧ Own [] w' un 1 9 (UN.map wc) ∧ Own [] w' ki 1 3 ((us.map fun q : Nat => num ps (q : Int)).map zc) ∧ (∀ b ∈ ki.blk, w9.heap.size ≤ b), fun kk _ => x.size - kk.toNat,
    ⟨j' + 1, x.size, [], Sl.nil, by omega, by omega, by omega, by omega, by simp, rfl, hS16, hSe16, hUn16, Own.nil _ _ _ _, by simp [Sl.blk, Sl.nil]⟩, ?_⟩
   rintro _ w17 ⟨k', f, us, ki, rfl, hjk, hf, hks, hul, hus, hS17, hSe17, hUn17, hKi, hKb⟩
   refine ⟨⟨by omega, by omega⟩, pb, hpb, (x.zAt j' : Int), (itemX w17 hS17.chg j' hjx).1 1 _ rfl, ⟨by omega, by omega⟩, fun hlt w18 hE18 => ?_, fun hge => ⟨⟨by omega, by omega⟩, ⟨k + 1, by omega, by omega, ?_⟩, by dsimp only; omega⟩⟩
   ·have hkx : k' < x.size := by omega
    have hzk := x.zAt_end hkx
    obtain ⟨f', rfl⟩ : ∃ f', f = f' + 1 := by
     cases f with
     |zero => exact absurd hf (by omega)
     |succ f => exact ⟨f, rfl⟩
    rw [kidLoop, if_pos (by omega)] at hus
    have hS18 := hS17.ext hE18
    obtain ⟨hrn, hrow⟩ := hS18.cells hk' hag
    refine ⟨_, ⟨⟨by omega, by simp; omega⟩, hag⟩, ki, hrow 5 _ rfl, num ps (k' : Int), fun w' hE => ?_, fun w19 B5 hE19 hB5 hbox _ => ?_⟩
    ·obtain ⟨hmB, hcB⟩ := mapB w' (hS18.ext hE).chg
     exact slotsNum hcB hmB hg2 (by omega) (by omega)
    have hS19 := hS18.ext hE19
    have hKi19 := (hKi.ext hE18).ext hE19
    have hbox' : Box w19 B5 3 (zc (num ps (k' : Int))) := hbox
    have hkin := hKi.len
    simp only [List.length_map] at hkin
    have hF : ∀ b ∈ ki.own, b ∈ ki.blk ∧ w9.heap.size ≤ b := fun b hb => ⟨Sl.own_blk hb, hKb b (Sl.own_blk hb)⟩
    refine App.runK Try.underlying22 ti_3 rfl (by decide) (.inl hKi19) (by simp) (Own.one (A := []) hbox' (by simp)).row (ones_zc _) (by simp) (by simp only [maxLen, List.length_singleton]; omega) (by simp only [List.length_singleton]; omega) (by simp) fun s' w20 ho20 hC20 hb20 => ⟨s', rfl, ((hS19.kids hKi19 hC20 hF).cells hk' hag).2 5 _ rfl, fun w21 hE21 => ⟨_, ⟨⟨by omega, by simp; omega⟩, hag⟩, fun w22 hE22 => ?_⟩⟩
    have hS20 := hS19.kids hKi19 hC20 hF
    have hSe20 := ((hSe17.ext hE18).ext hE19).keep hC20 (fun b hb hm => (((hSe17.ext hE18).ext hE19).apart hKi19 (by decide)) b hb (Sl.own_blk hm))
    have hUn20 := ((hUn17.ext hE18).ext hE19).keep hC20 (fun b hb hm => (((hUn17.ext hE18).ext hE19).apart hKi19 (by decide)) b hb (Sl.own_blk hm))
    have hS22 := (hS20.ext hE21).ext hE22
    obtain ⟨cur, hgb, hcl, hput⟩ := hS22.put hk' hag
    refine ⟨w8.heap.size, k * 6 + 5, 43, cur, by simp [Addr.add_lit], hgb, by omega, by simp, fun w23 hC23 hB23 => ?_⟩
    have hS23 : OfSt o x ps w8.heap.size ⟨some ⟨w8.heap.size, 0, none⟩, o.size, o.size⟩ wb w9.heap.size k [.bool false, .bool tx, se.v, un.v, .int .i64 UP, s'.v] w23 := hput w23 _ 5 (by simp) hC23 hB23
    refine ⟨⟨by omega, by omega⟩, pb, hpb, (x.zAt k' : Int), (itemX w23 hS23.chg k' hkx).1 1 _ rfl, ⟨by omega, by omega⟩, ⟨k' + x.zAt k', f', us ++ [k'], s', by omega, by omega, by omega, by omega, by simp; omega, by rw [List.append_assoc]; exact hus, hS23, ?_, ?_, ?_, ?_⟩, by dsimp only; omega⟩
    ·exact hS22.keep hag hC23 ((hSe20.ext hE21).ext hE22) (by decide)
    ·exact hS22.keep hag hC23 ((hUn20.ext hE21).ext hE22) (by decide)
    ·rw [List.map_append, List.map_append]
     exact hS22.keep hag hC23 ((ho20.ext hE21).ext hE22) (by decide)
    ·intro b hb
     rcases hb20 b hb with h | h
     ·exact (hF b h).2
     ·exact Nat.le_trans hS19.high h
   ·have e : us = x.kidsAt j' := by
     rw [← hus]
     cases f with
     |zero => simp [kidLoop]
     |succ f => rw [kidLoop, if_neg (by omega)]; simp
    have es : slotOf o x ps k = ⟨false, tx, SE, UN, UP, (x.kidsAt j').map fun q : Nat => num ps (q : Int)⟩ := by
     unfold slotOf
     rw [hto]
     simp only [Int.toNat_natCast]
     rw [htx, hse, hun, hup]
    rw [e] at hKi
    refine OfSt.out (N := w9.heap.size) (se := se) (un := un) (ki := ki) ?_ ?_ ?_ ?_
    ·rw [es]; exact hS17
    ·rw [es]; exact hSe17
    ·rw [es]; exact hUn17
    ·rw [es]; exact hKi
 ·have hkl : k = o.size := by omega
  subst hkl
  obtain ⟨hC, rows, h1, h2, h3, _⟩ := hHd
  refine ⟨Chg.fresh hE0b hC (by simpa using hg8), .inr ⟨ht, _, rfl, rows, h1.avoid (fun b hb => by simp [Sl.blk] at hb; subst hb; simp; omega), by simp [slotsOf, h2], fun i v row hv hr => ?_⟩⟩
  have hi' : i < o.size := by have := (List.getElem?_eq_some_iff.1 hr).1; omega
  have e1 : v = slotOf o x ps i := by
   simp [slotsOf, hi'] at hv; exact hv.symm
  obtain ⟨se, un, ki, e, a1, a2, a3, _⟩ := h3 i hi'
  rw [List.getD_eq_getElem?_getD, hr] at e
  subst e1
  exact ⟨se, un, ki, e, a1, a2, a3⟩
end
section
open Go.RowKit Go.MapKept
def kidsZ (t : T) (j : Nat) : List Int := (t.kidsAt j).map fun k : Nat => (k : Int)
theorem kidsZ_nc (t : T) (j : Nat) : (t.kidsAt j).map nc = (kidsZ t j).map zc := by simp [kidsZ, nc, zc]
def touched (t : T) (vs : List SV) (id : Int) : Bool := if id < 0 ∨ t.size ≤ id ∨ (vs.length : Int) ≤ id then false else
 !(vs.getD id.toNat sv0).gone && ((vs.getD id.toNat sv0).text || decide (0 < ((vs.getD id.toNat sv0).set.length : Int)) || decide (0 < ((vs.getD id.toNat sv0).unset.length : Int)) || !(decide ((vs.getD id.toNat sv0).kids = kidsZ t id.toNat)) || decide ((vs.getD id.toNat sv0).up ≠ (t.nd id.toNat).par))
theorem slotsTouched {A B : List Nat} {w : World} {t : T} {sa sk l : Sl} {vs : List SV} (h : RdT A w t sa sk) (hl : Slots B w l vs) (nt : t.bulk ≤ 400000000) (id : Int) :
  Calls Try.prog 16 #[tv t sa sk, l.v, .int .i64 id] w (Ret fun v w' => Ext w w' ∧ v = .bool (touched t vs id)) := by
 obtain ⟨R, hR⟩ : ∃ R, R = touched t vs id := ⟨_, rfl⟩
 rw [← hR]
 refine slots_Touched.ok _ _ _ _ _ _ _ ?_
 unfold slots_Touched.vc
 have hsz := T.size_bulk t
 intro w1 B1 hN1 hE1
 refine CallK.ext (walkFlat (by omega) (h.ext hE1)) ?_
 rintro v w2 hE2 ⟨s, rfl, hI⟩
 have hE02 := hE1.trans hE2
 have hL := hl.ext hE02
 have hln := hL.len
 obtain ⟨hn, p, al, hp, hc⟩ := hI.cell
 refine ⟨s, rfl, ?_⟩
 by_cases hid : id < 0 ∨ (t.size : Int) ≤ id ∨ (vs.length : Int) ≤ id
 ·have hf : R = false := by rw [hR]; unfold touched; rw [if_pos hid]
  refine ⟨⟨0, 0, none⟩, fun hg => by omega, false, fun hg => by omega, fun _ => ⟨hE02, by rw [hf]⟩, fun hg => by omega⟩
 ·have h1 : 0 ≤ id := by omega
  have h2 : id < t.size := by omega
  have h3 : id < vs.length := by omega
  obtain ⟨pl, se, un, ki, hpl, hcell, o1, o2, o3⟩ := hL.at (i := id.toNat) (by omega)
  unfold touched at hR
  rw [if_neg hid] at hR
  generalize vs.getD id.toNat sv0 = sv at hcell o1 o2 o3 hR
  obtain ⟨gone, text, set, unset, up, kids⟩ := sv
  have n1 := o1.len
  have n2 := o2.len
  rw [List.length_map] at n1 n2
  simp only at n1 n2 o3
  refine ⟨pl, fun _ => ⟨⟨h1, by omega⟩, hpl⟩, gone, fun _ => hcell 0 _ rfl, fun hbad => ⟨hE02, ?_⟩, fun hg => ⟨⟨h1, by omega⟩, pl, hpl, gone, text, se, un, up, ki, hcell, fun w3 B3 hN3 hE3 => ?_⟩⟩
  ·rcases hbad with ((hb | hb) | hb) | hb
   ·omega
   ·omega
   ·omega
   ·rw [hR, hb]; rfl
  ·have hgone : gone = false := hg.2
   subst hgone
   refine ⟨fun r w' => Own [] w' r 1 3 ((kidsZ t id.toNat).map zc), fun r w' w'' hE h => h.ext hE, fun _ w' hE => ?_, decide (kids = kidsZ t id.toNat), fun _ r w' hE hr => ?_, p, fun _ => ⟨⟨h1, by omega⟩, hp⟩, (t.nd id.toNat).par, fun _ => ((hc id.toNat (by omega)).1.ext hE3) 0 _ rfl, fun w4 hE4 => ⟨(hE02.trans hE3).trans hE4, ?_⟩⟩
   ·have hcall := slotsKids (hI.ext (hE3.trans hE)) (by omega) (j := id.toNat) (by omega)
    rw [show ((id.toNat : Nat) : Int) = id by omega] at hcall
    refine Ret.mono hcall ?_
    rintro v w'' ⟨a1, r, rfl, a2⟩
    exact ⟨a1, r, rfl, by rw [← kidsZ_nc]; exact a2.less (by simp)⟩
   ·exact slicesEqual ((o3.ext (hE3.trans hE)).row) (hr (by assumption)).row
   ·rw [hR, n1, n2]; simp
end
section
open Go.RowKit Go.MapKept
theorem slotsKidsT {A : List Nat} {w : World} {t : T} {sa sk : Sl} (h : RdT A w t sa sk) (nt : t.bulk ≤ 400000000) {id : Int} (h0 : 0 ≤ id) (h1 : id < t.size) :
  Calls Try.prog 24 #[tv t sa sk, .int .i64 id] w (Ret fun v w' => Ext w w' ∧ ∃ s : Sl, v = s.v ∧ Own (List.range w.heap.size) w' s 1 3 ((kidsZ t id.toNat).map zc)) := by
 refine slots_Kids.ok _ _ _ _ _ _ ?_
 unfold slots_Kids.vc
 have hsz := T.size_bulk t
 intro w1 B hN hE1
 refine CallK.ext (walkFlat (by omega) (h.ext hE1)) ?_
 rintro v w2 hE2 ⟨s, rfl, hI⟩
 obtain ⟨hn, _⟩ := hI.cell
 refine ⟨s, rfl, fun hb => by omega, fun _ => ?_⟩
 have hcall := slotsKids hI (by omega) (j := id.toNat) (by omega)
 rw [show ((id.toNat : Nat) : Int) = id by omega] at hcall
 refine CallK.ext hcall ?_
 rintro v w3 hE3 ⟨r, rfl, hr⟩
 refine ⟨r, rfl, (hE1.trans hE2).trans hE3, r, rfl, ?_⟩
 rw [← kidsZ_nc]
 exact hr.less fun b hb => List.mem_range.2 (by have := List.mem_range.1 hb; have := (hE1.trans hE2).size; omega)
theorem Own.many {A : List Nat} {w : World} {B size : Nat} {S : TypeId} {us : List (List Value)} (h : Box w B S us.flatten) (hu : ∀ u ∈ us, u.length = size) (hn : us.length ≤ maxLen) (hA : B ∉ A) : Own A w ⟨some ⟨B, 0, none⟩, us.length, us.length⟩ size S us :=
 ⟨rfl, Nat.le_refl _, hn, hu, .inr ⟨B, us.flatten, rfl, hA, h, flatten_len us hu, by rw [← flatten_len us hu, List.take_length]⟩⟩
def exQ (c : UInt8) : T := .node 3 [] [c] [] []
def exS (c : UInt8) : T := .node 1 [] [] [] [exQ c]
theorem exS_rd {A : List Nat} {w : World} {B : Nat} {S : TypeId} {c : UInt8} (h : Box w B S [.int .i64 3, .string (Bs []), .string (Bs [c]), Sl.nil.v, Sl.nil.v]) (hA : B ∉ A) : RdT A w (exS c) Sl.nil (Sl.mk (some ⟨B, 0, none⟩) 1 1) :=
 .mk [(Sl.nil, Sl.nil)] (Row.nil _ _ _) rfl (Own.one h hA).row (fun i t p ht hp => by
  cases i with
  |zero => simp at ht hp; subst ht; subst hp; exact RdT.nil _ _ _ _ _
  |succ i => simp at ht)
theorem exS_facts (c : UInt8) : (exS c).bulk ≤ 400000000 ∧ (exS c).size = 2 ∧ (exS c).check = true ∧ (exS c).flat = [⟨-1, 0, 0, exS c⟩, ⟨0, 1, 0, exQ c⟩] := by
 have hs : (exS c).size = 2 := by simp [exS, exQ, T.size_eq, T.kids]
 have hd : (exS c).depth = 2 := by simp [exS, exQ, T.depth_eq, T.kids]
 refine ⟨by simp [exS, exQ, T.bulk_eq, T.kids, T.name, T.text, T.attrs, T.abulk], hs, ?_, ?_⟩
 ·unfold T.check; rw [hs, hd]
  simp only [exS, exQ, T.kind, T.name, T.text, T.attrs, kidsOk, T.kids, List.all_cons, List.all_nil]
  rw [nodeOk_ne (by simp [T.kind])]; rfl
 ·unfold T.flat
  simp [T.ents_eq, exS, exQ, T.kids, kidsE_cons, kidsE_nil]
theorem exS_nd (c : UInt8) : (exS c).nd 0 = ⟨-1, 0, 0, exS c⟩ ∧ (exS c).nd 1 = ⟨0, 1, 0, exQ c⟩ ∧ (exS c).zAt 0 = 2 ∧ (exS c).zAt 1 = 1 := by
 have h := (exS_facts c).2.2.2
 have h2 := (exS_facts c).2.1
 have h3 : (exQ c).size = 1 := by simp [exQ, T.size_eq, T.kids]
 unfold T.nd T.zAt
 rw [h]
 exact ⟨rfl, rfl, h2, h3⟩
theorem exS_kids (c : UInt8) : (exS c).kidsAt 0 = [1] ∧ (exS c).kidsAt 1 = [] := by
 obtain ⟨_, _, z0, z1⟩ := exS_nd c
 unfold T.kidsAt
 rw [(exS_facts c).2.1, z0, z1]
 constructor
 ·simp [kidLoop, z1]
 ·simp [kidLoop]
def exPs : List (Int × Int) := [(0, 0), (1, 1)]
theorem exS_slots : chkP (exS 97) (exS 98) exPs = true ∧ slotsOf (exS 97) (exS 98) exPs = [⟨false, false, [], [], -1, [1]⟩, ⟨false, true, [], [], 0, []⟩] := by
 obtain ⟨_, s1, c1, _⟩ := exS_facts 97
 obtain ⟨_, s2, c2, _⟩ := exS_facts 98
 obtain ⟨a0, a1, _, _⟩ := exS_nd 97
 obtain ⟨b0, b1, _, _⟩ := exS_nd 98
 obtain ⟨k0, k1⟩ := exS_kids 98
 constructor
 ·unfold chkP
  rw [c1, c2]
  simp only [exPs, chkL, Int.toNat_zero, Int.toNat_one, s1, s2, a0, b0, a1, b1]
  simp [exS, exQ, T.kind, T.name]
 ·unfold slotsOf
  rw [s1]
  have r0 : slotOf (exS 97) (exS 98) exPs 0 = ⟨false, false, [], [], -1, [1]⟩ := by
   have ht : toF exPs ((0 : Nat) : Int) = some 0 := by decide
   have hn : num exPs 1 = 1 := by decide
   unfold slotOf
   rw [ht]
   simp only [Int.toNat_zero, a0, b0, k0, List.map_cons, List.map_nil]
   simp [exS, T.text, T.attrs, setOf, unsetOf, hn]
  have r1 : slotOf (exS 97) (exS 98) exPs 1 = ⟨false, true, [], [], 0, []⟩ := by
   have ht : toF exPs ((1 : Nat) : Int) = some 1 := by decide
   have hn : num exPs 0 = 0 := by decide
   unfold slotOf
   rw [ht]
   simp only [Int.toNat_one, a1, b1, k1, List.map_nil]
   simp [exQ, T.text, T.attrs, setOf, unsetOf, hn]
  show [slotOf _ _ _ 0, slotOf _ _ _ 1] = _
  rw [r0, r1]
theorem slotsAwake (w : World) : Calls Try.prog 14 #[] w (Ret fun v w' => Ext w w' ∧ v = .bool true) := by
 refine law25_awake.ok ?_
 unfold law25_awake.vc
 intro w1 B1 B2 B3 B4 B5 hN1 hN2 hN3 hN4 hN5 _ _ _ _ _ _ _ _ _ _ hE1 hb1 hb3 hb5
 obtain ⟨n1, s1, _, _⟩ := exS_facts 97
 obtain ⟨n2, _, _, _⟩ := exS_facts 98
 obtain ⟨e1, e2⟩ := exS_slots
 have hps : Row [] w1 (Sl.mk (some ⟨B5, 0, none⟩) 2 2) 2 (exPs.map pc) :=
  (Own.many (us := exPs.map pc) hb5 (by simp [exPs, pc]) (by simp [exPs, maxLen]) (by simp)).row
 refine CallK.ext (slotsOfC (A := []) (o := exS 97) (x := exS 98) (ps := exPs) (exS_rd hb1 (by simp)) (exS_rd hb3 (by simp)) hps n1 n2 (by simp [exPs])) ?_
 rintro v w2 hE2 hv
 rcases hv with ⟨h, _⟩ | ⟨_, s, rfl, hS⟩
 ·rw [e1] at h; cases h
 rw [e2] at hS
 have hrd : ∀ w', Ext w1 w' → RdT [] w' (exS 97) Sl.nil (Sl.mk (some ⟨B1, 0, none⟩) 1 1) := fun w' hE => exS_rd (hb1.ext hE) (by simp)
 obtain ⟨p, se, un, ki, hp, hc, _⟩ := hS.at (i := 1) (by simp)
 have hl := hS.len
 have t1 : touched (exS 97) [⟨false, false, [], [], -1, [1]⟩, ⟨false, true, [], [], 0, []⟩] 1 = true := by
  unfold touched; rw [s1, if_neg (by simp)]; simp
 have t0 : touched (exS 97) [⟨false, false, [], [], -1, [1]⟩, ⟨false, true, [], [], 0, []⟩] 0 = false := by
  unfold touched; rw [s1, if_neg (by simp)]
  simp [kidsZ, (exS_kids 97).1, (exS_nd 97).1]
 refine ⟨s, 0, rfl, p, fun _ => ⟨⟨by omega, by simp at hl; omega⟩, hp⟩, true, fun _ => hc 1 _ rfl, p, fun _ => ⟨⟨by omega, by simp at hl; omega⟩, hp⟩, 0, fun _ => hc 4 _ rfl, _, fun _ => slotsTouched (hrd w2 hE2) hS n1 1, fun w3 hE3 => ⟨_, fun _ => slotsTouched (hrd w3 (hE2.trans hE3)) (hS.ext hE3) n1 0, fun w4 hE4 => ⟨((hE1.trans hE2).trans hE3).trans hE4, ?_⟩⟩⟩
 rw [t1, t0]
 simp at hl
 simp [hl]
end
section
open Go.RowKit Go.MapKept
theorem T.ents_all {Q : T → Prop} (hQ : ∀ t, Q t → ∀ u ∈ t.kids, Q u) : ∀ (t : T) (id : Nat) (p : Int) (d pl : Nat), Q t → ∀ e ∈ t.ents id p d pl, Q e.t := T.ind' fun t ih id p d pl hq e he => by
 rw [T.ents_eq] at he
 rcases List.mem_cons.1 he with rfl | he
 ·exact hq
 ·have go : ∀ (us : List T), (∀ u ∈ us, u ∈ t.kids) → ∀ (nx : Nat) (p : Int) (d i : Nat), e ∈ kidsE us nx p d i → Q e.t := by
   intro us
   induction us with
   |nil => intro _ _ _ _ _ he; cases he
   |cons u us ih2 =>
    intro hu nx p d i he
    rw [kidsE_cons] at he
    rcases List.mem_append.1 he with he | he
    ·exact ih u (hu u (by simp)) nx p d i (hQ t hq u (hu u (by simp))) e he
    ·exact ih2 (fun v hv => hu v (by simp [hv])) _ _ _ _ he
  exact go t.kids (fun u hu => hu) _ _ _ _ he
theorem nodeOk_attrs {t : T} (h : nodeOk t = true) : attrsOk [] t.attrs = true ∧ ∀ u ∈ t.kids, nodeOk u = true := by
 by_cases hk : t.kind = 2
 ·rw [nodeOk_el hk] at h
  simp only [Bool.and_eq_true] at h
  refine ⟨h.1.2.2, fun u hu => ?_⟩
  have := List.all_eq_true.1 h.2 u hu
  simp only [Bool.and_eq_true] at this
  exact this.1
 ·rw [nodeOk_ne hk] at h
  simp only [Bool.and_eq_true] at h
  have h1 : t.attrs = [] := by simpa using h.1.1
  have h2 : t.kids = [] := by simpa using h.1.2
  rw [h1, h2]
  exact ⟨rfl, by simp⟩
end
section
open Go.RowKit Go.MapKept
theorem refSizeG {A : List Nat} : ∀ t : T, t.bulk ≤ 1099511627776 → ∀ {w : World} {sa sk : Sl}, RdT A w t sa sk →
  Calls Try.prog 15 #[tv t sa sk] w (Ret fun v w' => Ext w w' ∧ v = .int .i64 (t.size : Int)) := T.ind' fun t ih hb w sa sk h => by
 refine ref05_Size.ok _ _ _ _ _ ?_
 unfold ref05_Size.vc
 have hn := h.nkids
 have hcp := h.caps
 have hl := T.kids_len t
 intro w1 B1 _ hE1
 refine ⟨fun n i w2 => ∃ k : Nat, i = (k : Int) ∧ k ≤ t.kids.length ∧ n = ((1 + ((t.kids.take k).map T.size).sum : Nat) : Int) ∧ Ext w w2, fun _ i _ => t.kids.length - i.toNat, ⟨0, rfl, Nat.zero_le _, by simp, hE1⟩, ?_⟩
 rintro _ _ w2 ⟨k, rfl, hk, rfl, hE⟩
 refine ⟨fun hi => ?_, fun hi => ⟨hE, ?_⟩⟩
 ·have hk' : k < t.kids.length := by omega
  obtain ⟨p, sa', sk', hp, _, hc, hr⟩ := (h.ext hE).kid hk'
  rw [Int.toNat_natCast]
  have hm := getD_mem (d := T.nul) hk'
  have hs := sum_take T.size hk'
  have hsl := sum_take_le T.size t.kids (k + 1)
  have ht := T.size_eq t
  have htb := T.size_bulk t
  refine ⟨⟨by omega, hi⟩, p, hp, _, _, _, sa', sk', hc, CallK.exact (ih _ hm (by have := T.kid_bulk hm; omega) hr) fun w4 hE4 => ⟨_, rfl, ⟨by omega, by omega⟩, ⟨by omega, by omega⟩, ⟨k + 1, by omega, by omega, by omega, hE.trans hE4⟩, by dsimp only; omega⟩⟩
 ·have hkl : k = t.kids.length := by omega
  subst hkl
  rw [List.take_of_length_le (Nat.le_refl _), T.size_eq t]
theorem refKids {w : World} {a : Sl} {t : T} (h : RItems w a t) (hb : t.size ≤ 1000000000) {j : Nat} (hj : j < t.size) :
  Calls Try.prog 17 #[a.v, .int .i64 (j : Int)] w (Ret fun v w' => Ext w w' ∧ ∃ s : Sl, v = s.v ∧ Own (List.range w.heap.size) w' s 1 3 ((t.kidsAt j).map nc)) := by
 obtain ⟨rows, ho, hr⟩ := h
 have hn := ho.len
 have hrl := hr.1
 rw [T.flat_len] at hrl
 rw [hrl] at hn
 have hend := t.zAt_end hj
 refine ref07_Kids.ok _ _ ?_
 unfold ref07_Kids.vc
 obtain ⟨p, hp⟩ : ∃ p, a.a = some p := by
  obtain ⟨p, hp, _⟩ := ho.row.at_ j (by omega)
  exact ⟨p, hp⟩
 have hpb : p.block ∈ a.blk := by simp [Sl.blk, hp]
 have size : ∀ w', Ext w w' → ∀ k, k < t.size → w'.cell? ((p.add (k * 15)).add 1) = some (.int .i64 (t.zAt k : Int)) := fun w' hE k hk => by
  have := (ho.ext hE).row.cells1 (i := k) (by omega) hp
  obtain ⟨u, hu⟩ : ∃ u, rows[k]? = some u := ⟨_, List.getElem?_eq_getElem (by omega)⟩
  obtain ⟨a', sa', sk', rfl, _⟩ := hr.2 k _ u (t.flat_get hk) hu
  rw [List.getD_eq_getElem?_getD, hu] at this
  exact this 1 _ rfl
 refine ⟨⟨by omega, by omega⟩, fun s k w' => ∃ (k' f : Nat) (us : List Nat), k = (k' : Int) ∧ j < k' ∧ t.size ≤ f + k' ∧ Own (List.range w.heap.size) w' s 1 3 (us.map nc) ∧ us ++ kidLoop t.zAt (j + t.zAt j) f k' = t.kidsAt j ∧ us.length ≤ k' ∧ k' ≤ t.size ∧ Ext w w', fun _ k _ => t.size - k.toNat,
  ⟨j + 1, t.size, [], by omega, by omega, by omega, Own.nil _ _ _ _, rfl, by simp, by omega, Chg.refl _ _⟩, ?_⟩
 rintro s _ w2 ⟨k, f, us, rfl, hjk, hf, hO, hus, hul, hks, hE⟩
 refine ⟨⟨by omega, by omega⟩, p, hp, (t.zAt j : Int), size w2 hE j hj, ⟨by omega, by omega⟩, fun hlt w3 B hN hE3 hB => ?_, fun hge => ?_⟩
 ·have hk : k < t.size := by omega
  have hzk := t.zAt_end hk
  have hun := hO.len
  rw [List.length_map] at hun
  obtain ⟨f', rfl⟩ : ∃ f', f = f' + 1 := by
   cases f with
   |zero => exact absurd hf (by omega)
   |succ f => exact ⟨f, rfl⟩
  rw [kidLoop, if_pos (by omega)] at hus
  have hbox : Box w3 B 3 (nc k) := hB
  refine App.runK Try.underlying22 ti_3 rfl (by decide) (.inl (hO.ext hE3)) (fun b hb => Nat.lt_of_lt_of_le (List.mem_range.1 hb) (hE.trans hE3).size) (Own.one (A := []) hbox (by simp)).row (ones_nc _) (by simp) (by simp only [maxLen, List.length_singleton]; omega) (by simp only [List.length_singleton]; omega) (by simp) fun s' w4 ho4 hC4 hb4 => ?_
  have hE4 : Ext w w4 := Chg.fresh (hE.trans hE3) hC4 (fun b hb => by have := (hO.blk b (Sl.own_blk hb)).1; simp at this; exact this)
  refine ⟨s', rfl, ⟨by omega, by omega⟩, p, hp, (t.zAt k : Int), size w4 hE4 k hk, ⟨by omega, by omega⟩, ⟨k + t.zAt k, f', us ++ [k], by omega, by omega, by omega, by rw [List.map_append]; exact ho4, by rw [List.append_assoc]; exact hus, by simp; omega, by omega, hE4⟩, ?_⟩
  dsimp only; omega
 ·refine ⟨hE, s, rfl, ?_⟩
  have : us = t.kidsAt j := by
   rw [← hus]
   cases f with
   |zero => simp [kidLoop]
   |succ f => rw [kidLoop, if_neg (by omega)]; simp
  rw [← this]; exact hO
theorem T.nd_zero (t : T) : t.nd 0 = ⟨-1, 0, 0, t⟩ := by
 unfold T.nd
 rw [List.getD_eq_getElem?_getD, t.flat_zero]; rfl
theorem T.zAt_zero (t : T) : t.zAt 0 = t.size := by
 have := congrArg (fun e : En => e.t.size) t.nd_zero
 exact this
end
end Go.Proofs.Yteohbfaechfliaa
